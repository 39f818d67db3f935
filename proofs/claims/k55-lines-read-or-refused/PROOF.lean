import PyProof.Rows.All
import Wide.All
import OpenK.AllK
import Wide.FinOn
import PySem.Challenge.RW_drawback_k55_lines_read_or_refused
import HandS.ForMost
import HandS.ForExc
import HandS.IsInst
import HandS.Wide
import HandS.Conv
import HandS.Lambda
import HandS.Zip
import HandS.HeadHook4
import HandS.Deep
import HandS.ExcIs
import HandS.HeadHook1
import HandS.HeadWalk
import HandS.EndTab
import HandS.Head0
import HandS.Head1
import HandS.Head2
import HandS.HeadEnd
import HandS.TupAny
import HandS.More
import HandS.ExcValue
import KE.SortKeyHeap
import KE.KSortKey
import KE.KLam
import PyProof.Rows.SeqItemCall
import PyProof.Rows.CallKwBuiltin
import HandS.Style
import HandS.SortInts
import HandS.Set
import HandS.SetFor
import HandS.Strs
import HandS.Iter
import HandS.TupLe
import KE.GoesEnum
import KE.GoesMore
import HandS.SortRule
import HandS.Flow
import HandS.TupSets
import HandS.TryOnly
set_option Elab.async false
set_option linter.all false
set_option maxRecDepth 100000
set_option maxHeartbeats 8000000
namespace Fx
open PySem L2
class Tabz where
  T : List (Addr × Str)
  cA : Str → Addr
variable [Tabz]
def NT (o : HO) : Prop := ∀ ps, o ≠ .tbl ps
def NtH (H : Hp) : Prop := ∀ a ps, H a ≠ some (.tbl ps)
def Tb (H : Hp) : Prop := LamX.Tabs Tabz.T H
abbrev D := PyData
def flds (c : Str) : List Str := if c = "Kinds" then ["part_rows", "held"] else if c = "House" then ["term", "limit", "share", "goods", "lot_rows", "out_rows", "claim_rows", "past", "future"] else if c = "Desk" then ["house"] else []
def instD (c : Str) (ds : List PyData) : PyData := .dict [(.none, .str c), (.none, .tuple ds)]
inductive Nk where
  | lst | tup
  | ins (c : Str)
  | dct (ks : List Key)
inductive Tr where
  | fz (d : D)
  | ow (ds : List D)
  | dk (ks : List Key) (ds : List D)
  | dt (ks : List (List Key)) (ds : List D)
  | nd (k : Nk) (ts : List Tr)
inductive Sl where
  | un
  | fz (d : D)
  | ow (ds : List D)
  | raw (v : V)
  | tr (t : Tr)
  | lk (t : Tr)
  | pa (i : Nat) (q : List Nat)
abbrev Rho := List Sl
def kD : Key → D
  | .inl i => .int i
  | .inr x => .str x
mutual
/-- the value v is the data d, all of it tracked -/
inductive Rep (H : Hp) : V → D → Prop
  | non : Rep H .non .none
  | bl (b : Bool) : Rep H (.bl b) (.bool b)
  | int (i : Int) : Rep H (.int i) (.int i)
  | str (x : Str) : Rep H (.str x) (.str x)
  | lst {a : Addr} {xs : List V} {ds : List D} : H a = some (.lst xs) → RepA H xs ds → Rep H (.ref a) (.list ds)
  | tup {a : Addr} {xs : List V} {ds : List D} : H a = some (.tup xs) → RepA H xs ds → Rep H (.ref a) (.tuple ds)
  | ins {a dx : Addr} {c : Str} {xs : List V} {ds : List D} : H a = some (.ins (Tabz.cA c) dx ((flds c).zip xs)) → xs.length ≤ (flds c).length → RepA H xs ds → Rep H (.ref a) (instD c ds)
  | dct {a : Addr} {ks : List Key} {xs : List V} {ds : List D} : H a = some (.dK (ks.zip xs)) → ks.length = xs.length → RepA H xs ds → Rep H (.ref a) (.dict ((ks.map kD).zip ds))
inductive RepA (H : Hp) : List V → List D → Prop
  | nil : RepA H [] []
  | cons {v : V} {vs : List V} {d : D} {ds : List D} : Rep H v d → RepA H vs ds → RepA H (v :: vs) (d :: ds)
end
inductive Out (α : Type) where
  | ok (a : α)
  | exc (c : Str)
  | bad
def NodeOk (H : Hp) (p : Addr) : Nk → List V → Prop
  | .lst, vs => H p = some (.lst vs)
  | .tup, vs => H p = some (.tup vs)
  | .ins c, vs => vs.length ≤ (flds c).length ∧ ∃ dx, H p = some (.ins (Tabz.cA c) dx ((flds c).zip vs))
  | .dct ks, vs => ks.length = vs.length ∧ H p = some (.dK (ks.zip vs))
mutual
/-- the value v is the tree t, whose own objects are F -/
inductive TR (Hf H : Hp) : V → Tr → List Addr → Prop
  | fz {v : V} {d : D} : Rep Hf v d → TR Hf H v (.fz d) []
  | ow {p : Addr} {vs : List V} {ds : List D} : H p = some (.lst vs) → RepA Hf vs ds → TR Hf H (.ref p) (.ow ds) [p]
  | dk {p : Addr} {ks : List Key} {vs : List V} {ds : List D} : H p = some (.dK (ks.zip vs)) → ks.length = vs.length → RepA Hf vs ds → TR Hf H (.ref p) (.dk ks ds) [p]
  | dt {p : Addr} {ks : List (List Key)} {vs : List V} {ds : List D} : H p = some (.dT (ks.zip vs)) → ks.length = vs.length → RepA Hf vs ds → TR Hf H (.ref p) (.dt ks ds) [p]
  | nd {p : Addr} {k : Nk} {vs : List V} {ts : List Tr} {F : List Addr} : NodeOk H p k vs → TRs Hf H vs ts F → TR Hf H (.ref p) (.nd k ts) (p :: F)
inductive TRs (Hf H : Hp) : List V → List Tr → List Addr → Prop
  | nil : TRs Hf H [] [] []
  | cons {v : V} {vs : List V} {t : Tr} {ts : List Tr} {F F' : List Addr} : TR Hf H v t F → TRs Hf H vs ts F' → TRs Hf H (v :: vs) (t :: ts) (F ++ F')
end
inductive At (H : Hp) : V → Tr → List Nat → V → Tr → Prop
  | nil {v : V} {t : Tr} : At H v t [] v t
  | cons {p : Addr} {k : Nk} {vs : List V} {ts : List Tr} {n : Nat} {v w : V} {t s : Tr} {q : List Nat} : NodeOk H p k vs → vs[n]? = some v → ts[n]? = some t → At H v t q w s → At H (.ref p) (.nd k ts) (n :: q) w s
theorem NodeOk.inj {H : Hp} {p : Addr} : ∀ {k : Nk} {vs ws : List V}, NodeOk H p k vs → NodeOk H p k ws → vs = ws
  | .lst, vs, ws, h, h' => by
    have h : H p = some (.lst vs) := h
    have h' : H p = some (.lst ws) := h'
    rw [h] at h'; cases h'; rfl
  | .tup, vs, ws, h, h' => by
    have h : H p = some (.tup vs) := h
    have h' : H p = some (.tup ws) := h'
    rw [h] at h'; cases h'; rfl
  | .ins c, vs, ws, ⟨l, dx, h⟩, ⟨l', dx', h'⟩ => by
    rw [h] at h'
    simp only [Option.some.injEq, HO.ins.injEq, true_and] at h'
    have e := congrArg (List.map Prod.snd) h'.2
    rwa [List.map_snd_zip (by omega), List.map_snd_zip (by omega)] at e
  | .dct ks, vs, ws, ⟨l, h⟩, ⟨l', h'⟩ => by
    rw [h] at h'
    simp only [Option.some.injEq, HO.dK.injEq] at h'
    have e := congrArg (List.map Prod.snd) h'
    rwa [List.map_snd_zip (by omega), List.map_snd_zip (by omega)] at e
theorem NodeOk.obj {H : Hp} {p : Addr} : ∀ {k : Nk} {vs : List V}, NodeOk H p k vs → ∃ o, H p = some o ∧ NT o
  | .lst, vs, h => ⟨_, h, fun _ z => nomatch z⟩
  | .tup, vs, h => ⟨_, h, fun _ z => nomatch z⟩
  | .ins c, vs, ⟨_, dx, h⟩ => ⟨_, h, fun _ z => nomatch z⟩
  | .dct ks, vs, ⟨_, h⟩ => ⟨_, h, fun _ z => nomatch z⟩
theorem NodeOk.of {H H' : Hp} {p : Addr} (e : H' p = H p) : ∀ {k : Nk} {vs : List V}, NodeOk H p k vs → NodeOk H' p k vs
  | .lst, vs, h => (show H' p = _ from e.trans h)
  | .tup, vs, h => (show H' p = _ from e.trans h)
  | .ins c, vs, ⟨l, dx, h⟩ => ⟨l, dx, e.trans h⟩
  | .dct ks, vs, ⟨l, h⟩ => ⟨l, e.trans h⟩
mutual
theorem TR.inj {Hf Hf' H : Hp} : ∀ {v : V} {t : Tr} {F F' : List Addr}, TR Hf H v t F → TR Hf' H v t F' → F = F'
  | _, _, _, _, .fz _, .fz _ => rfl
  | _, _, _, _, .ow _ _, .ow _ _ => rfl
  | _, _, _, _, .dk _ _ _, .dk _ _ _ => rfl
  | _, _, _, _, .dt _ _ _, .dt _ _ _ => rfl
  | _, _, _, _, .nd h a, .nd h' a' => by
    have e := h.inj h'
    subst e
    rw [TRs.inj a a']
theorem TRs.inj {Hf Hf' H : Hp} : ∀ {vs : List V} {ts : List Tr} {F F' : List Addr}, TRs Hf H vs ts F → TRs Hf' H vs ts F' → F = F'
  | _, _, _, _, .nil, .nil => rfl
  | _, _, _, _, .cons h a, .cons h' a' => by rw [TR.inj h h', TRs.inj a a']
end
mutual
/-- its objects are there -/
theorem TR.obj {Hf H : Hp} : ∀ {v : V} {t : Tr} {F : List Addr}, TR Hf H v t F → ∀ a ∈ F, ∃ o, H a = some o ∧ NT o
  | _, _, _, .fz _, a, z => nomatch z
  | _, _, _, .ow h _, a, z => by
    rw [List.mem_singleton] at z; subst z
    exact ⟨_, h, fun _ y => nomatch y⟩
  | _, _, _, .dk h _ _, a, z => by
    rw [List.mem_singleton] at z; subst z
    exact ⟨_, h, fun _ y => nomatch y⟩
  | _, _, _, .dt h _ _, a, z => by
    rw [List.mem_singleton] at z; subst z
    exact ⟨_, h, fun _ y => nomatch y⟩
  | _, _, _, .nd h k, a, z => by
    rcases List.mem_cons.mp z with e | z
    · subst e; exact h.obj
    · exact TRs.obj k a z
theorem TRs.obj {Hf H : Hp} : ∀ {v : List V} {t : List Tr} {F : List Addr}, TRs Hf H v t F → ∀ a ∈ F, ∃ o, H a = some o ∧ NT o
  | _, _, _, .nil, a, z => nomatch z
  | _, _, _, .cons h k, a, z => (List.mem_append.mp z).elim (TR.obj h a) (TRs.obj k a)
end
def OwnS (H : Hp) (v : V) : Sl → Addr → Prop
  | .ow _, a => v = .ref a
  | .tr t, a => ∃ Hf F, TR Hf H v t F ∧ a ∈ F
  | _, _ => False
def OwnI (H : Hp) (σ : St) (ρ : Rho) (i : Nat) (a : Addr) : Prop := ∃ s v, ρ[i]? = some s ∧ σ[i]? = some (some v) ∧ OwnS H v s a
def OwnA (H : Hp) (σ : St) (ρ : Rho) (a : Addr) : Prop := ∃ i, OwnI H σ ρ i a
def LkA (H : Hp) (σ : St) (ρ : Rho) (a : Addr) : Prop := ∃ (i : Nat) (t : Tr) (v : V) (Hf : Hp) (F : List Addr), ρ[i]? = some (Sl.lk t) ∧ σ[i]? = some (some v) ∧ TR Hf H v t F ∧ a ∈ F
def SlOk (Hf H : Hp) : Option (Option V) → Sl → Prop
  | _, .un => True
  | some (some v), .fz d => Rep Hf v d
  | some (some w), .raw v => w = v
  | some (some (.ref p)), .ow ds => Hf p = none ∧ ∃ vs, H p = some (.lst vs) ∧ RepA Hf vs ds
  | some (some v), .tr t => ∃ F, TR Hf H v t F ∧ F.Nodup ∧ ∀ a ∈ F, Hf a = none
  | some (some v), .lk t => ∃ F, TR Hf H v t F
  | _, .pa _ _ => True
  | _, _ => False
def isTr (ρ : Rho) (i : Nat) (t : Tr) : Prop := ρ[i]? = some (.tr t) ∨ ρ[i]? = some (.lk t)
structure Rp (Hf H : Hp) (σ : St) (ρ : Rho) : Prop where
  sub : Same Hf H
  tb : Tb H
  nt : NtH Hf
  len : ρ.length ≤ σ.length
  sl : ∀ (i : Nat) (s : Sl), ρ[i]? = some s → SlOk Hf H σ[i]? s
  nd : ∀ (i j : Nat) (a : Addr), OwnI H σ ρ i a → OwnI H σ ρ j a → i = j
  lk : ∀ a, LkA H σ ρ a → ¬ OwnA H σ ρ a
  al : ∀ (j i : Nat) (q : List Nat) (t : Tr), ρ[j]? = some (.pa i q) → isTr ρ i t → ∃ v w s, σ[i]? = some (some v) ∧ σ[j]? = some (some w) ∧ At H v t q w s
def Keep (σ : St) (ρ : Rho) (H H' : Hp) : Prop := ∀ a o, H a = some o → NT o → ¬ OwnA H σ ρ a → H' a = some o
def Quiet (σ : St) (ρ : Rho) (H : Hp) (σ' : St) (ρ' : Rho) (H' : Hp) : Prop := ∀ i t, ρ[i]? = some (.tr t) → ρ'[i]? = some (.tr t) ∧ σ'[i]? = σ[i]? ∧ ∀ a, OwnI H σ ρ i a → H' a = H a
def Stay (σ : St) (ρ : Rho) (σ' : St) (ρ' : Rho) : Prop := ∀ i : Nat, (∃ t : Tr, ρ[i]? = some (Sl.lk t)) ∨ (∃ (k : Nat) (q : List Nat), ρ[i]? = some (Sl.pa k q)) → ρ'[i]? = ρ[i]? ∧ σ'[i]? = σ[i]?
structure Nxt (q : Bool) (σ : St) (ρ : Rho) (Hf H : Hp) (σ' : St) (ρ' : Rho) (Hf' H' : Hp) : Prop where
  sub : Same Hf Hf'
  keep : Keep σ ρ H H'
  os : ∀ a, OwnA H' σ' ρ' a → OwnA H σ ρ a ∨ H a = none
  ls : ∀ a, LkA H' σ' ρ' a → LkA H σ ρ a
  dom : ∀ a, H' a = none → H a = none
  fr : ∀ a, Hf a = none → Hf' a = none ∨ H a = none ∨ OwnA H σ ρ a
  qt : q = true → Quiet σ ρ H σ' ρ' H' ∧ Stay σ ρ σ' ρ'
  rp : Rp Hf' H' σ' ρ'
section
variable {q : Bool} {Hf Hf1 Hf2 H H1 H2 H' Hf' : Hp} {σ σ1 σ2 σ' : St} {ρ ρ1 ρ2 ρ' : Rho}
mutual
theorem rep_same (e : Same Hf Hf') : ∀ {v : V} {d : D}, Rep Hf v d → Rep Hf' v d
  | _, _, .non => .non
  | _, _, .bl b => .bl b
  | _, _, .int i => .int i
  | _, _, .str x => .str x
  | _, _, .lst h a => .lst (e _ _ h) (repA_same e a)
  | _, _, .tup h a => .tup (e _ _ h) (repA_same e a)
  | _, _, .ins h l a => .ins (e _ _ h) l (repA_same e a)
  | _, _, .dct h l a => .dct (e _ _ h) l (repA_same e a)
theorem repA_same (e : Same Hf Hf') : ∀ {v : List V} {d : List D}, RepA Hf v d → RepA Hf' v d
  | _, _, .nil => .nil
  | _, _, .cons h a => .cons (rep_same e h) (repA_same e a)
end
mutual
theorem TR.mono (e : Same Hf Hf') : ∀ {v : V} {t : Tr} {F : List Addr}, TR Hf H v t F → (∀ a ∈ F, H' a = H a) → TR Hf' H' v t F
  | _, _, _, .fz r, _ => .fz (rep_same e r)
  | _, _, _, .ow h r, k => .ow ((k _ (List.mem_singleton.mpr rfl)).trans h) (repA_same e r)
  | _, _, _, .dk h l r, k => .dk ((k _ (List.mem_singleton.mpr rfl)).trans h) l (repA_same e r)
  | _, _, _, .dt h l r, k => .dt ((k _ (List.mem_singleton.mpr rfl)).trans h) l (repA_same e r)
  | _, _, _, .nd h r, k => .nd (h.of (k _ List.mem_cons_self)) (TRs.mono e r fun a z => k a (List.mem_cons_of_mem _ z))
theorem TRs.mono (e : Same Hf Hf') : ∀ {v : List V} {t : List Tr} {F : List Addr}, TRs Hf H v t F → (∀ a ∈ F, H' a = H a) → TRs Hf' H' v t F
  | _, _, _, .nil, _ => .nil
  | _, _, _, .cons h r, k => .cons (TR.mono e h fun a z => k a (List.mem_append_left _ z)) (TRs.mono e r fun a z => k a (List.mem_append_right _ z))
end
theorem TRs.len : ∀ {vs : List V} {ts : List Tr} {F : List Addr}, TRs Hf H vs ts F → vs.length = ts.length
  | _, _, _, .nil => rfl
  | _, _, _, .cons _ r => by rw [List.length_cons, List.length_cons, r.len]
theorem TRs.get : ∀ {vs : List V} {ts : List Tr} {F : List Addr} {n : Nat} {v : V} {t : Tr}, TRs Hf H vs ts F → vs[n]? = some v → ts[n]? = some t → ∃ L M R, F = L ++ (M ++ R) ∧ TR Hf H v t M
  | _, _, _, 0, v, t, .cons (F := F) (F' := F') h r, e1, e2 => by
    simp only [List.getElem?_cons_zero, Option.some.injEq] at e1 e2
    subst e1 e2
    exact ⟨[], F, F', rfl, h⟩
  | _, _, _, n + 1, v, t, .cons (F := F) (F' := F') h r, e1, e2 => by
    simp only [List.getElem?_cons_succ] at e1 e2
    obtain ⟨L, M, R, e, z⟩ := TRs.get r e1 e2
    exact ⟨F ++ L, M, R, by rw [e, List.append_assoc], z⟩
  | _, _, _, _, _, _, .nil, e1, _ => by simp at e1
theorem TRs.set {s : Tr} : ∀ {vs : List V} {ts : List Tr} {F : List Addr} {n : Nat} {v : V} {t : Tr}, TRs Hf H vs ts F → vs[n]? = some v → ts[n]? = some t → ∃ L M R, F = L ++ (M ++ R) ∧ TR Hf H v t M ∧ ∀ {Hf' H' : Hp} {w : V} {M' : List Addr}, Same Hf Hf' → (∀ a, a ∈ L ∨ a ∈ R → H' a = H a) → TR Hf' H' w s M' → TRs Hf' H' (vs.set n w) (ts.set n s) (L ++ (M' ++ R))
  | _, _, _, 0, v, t, .cons (F := F) (F' := F') h r, e1, e2 => by
    simp only [List.getElem?_cons_zero, Option.some.injEq] at e1 e2
    subst e1 e2
    refine ⟨[], F, F', rfl, h, fun {Hf' H' w M'} e k z => ?_⟩
    rw [List.nil_append]
    exact .cons z (TRs.mono e r fun a y => k a (.inr y))
  | _, _, _, n + 1, v, t, .cons (F := F) (F' := F') h r, e1, e2 => by
    simp only [List.getElem?_cons_succ] at e1 e2
    obtain ⟨L, M, R, e, z, y⟩ := TRs.set (s := s) r e1 e2
    refine ⟨F ++ L, M, R, by rw [e, List.append_assoc], z, fun {Hf' H' w M'} e k z => ?_⟩
    rw [List.append_assoc]
    exact .cons (TR.mono e h fun a y => k a (.inl (List.mem_append_left _ y))) (y e (fun a x => k a (x.imp (fun u => List.mem_append_right _ u) id)) z)
  | _, _, _, _, _, _, .nil, e1, _ => by simp at e1
def Tr.at : Tr → List Nat → Option Tr
  | t, [] => some t
  | .nd _ ts, n :: q => match ts[n]? with
    | some t => t.at q
    | none => none
  | _, _ :: _ => none
def Tr.put : Tr → List Nat → Tr → Tr
  | _, [], s => s
  | .nd k ts, n :: q, s => match ts[n]? with
    | some t => .nd k (ts.set n (t.put q s))
    | none => .nd k ts
  | t, _ :: _, _ => t
theorem set_same {α : Type} : ∀ {l : List α} {n : Nat} {x : α}, l[n]? = some x → l.set n x = l
  | _ :: _, 0, _, h => by simp at h; subst h; rfl
  | _ :: l, n + 1, _, h => by simp only [List.getElem?_cons_succ] at h; rw [List.set_cons_succ, set_same h]
  | [], _, _, h => by simp at h
theorem TR.focus {s s' : Tr} : ∀ {qs : List Nat} {v : V} {t : Tr} {F : List Addr}, TR Hf H v t F → t.at qs = some s → ∃ w L M R, At H v t qs w s ∧ F = L ++ (M ++ R) ∧ TR Hf H w s M ∧ ∀ {Hf' H' : Hp} {M' : List Addr}, Same Hf Hf' → (∀ a, a ∈ L ∨ a ∈ R → H' a = H a) → TR Hf' H' w s' M' → TR Hf' H' v (t.put qs s') (L ++ (M' ++ R))
  | [], v, t, F, h, e => by
    cases t <;> (simp only [Tr.at, Option.some.injEq] at e; subst e; exact ⟨v, [], F, [], .nil, by simp, h, fun e k z => by simpa [Tr.put] using z⟩)
  | n :: qs, _, _, _, .nd (p := p) (k := k) (vs := vs) (ts := ts) (F := F) hn r, e => by
    simp only [Tr.at] at e
    cases e1 : ts[n]? with
    | none => rw [e1] at e; cases e
    | some t1 =>
      rw [e1] at e
      have hlen : vs.length = ts.length := by
        exact r.len
      obtain ⟨v1, e2⟩ : ∃ v1, vs[n]? = some v1 := by
        have : n < ts.length := (List.getElem?_eq_some_iff.mp e1).1
        exact ⟨vs[n], List.getElem?_eq_getElem (by omega)⟩
      obtain ⟨L, M, R, eF, h1, st⟩ := TRs.set (s := t1.put qs s') r e2 e1
      obtain ⟨w, L1, M1, R1, a1, eM, h2, st2⟩ := TR.focus (s' := s') (qs := qs) h1 e
      refine ⟨w, p :: (L ++ L1), M1, R1 ++ R, .cons hn e2 e1 a1, by rw [eF, eM]; simp [List.append_assoc], h2, fun {Hf' H' M'} es kp z => ?_⟩
      have z2 := st2 es (fun a y => kp a (y.imp (fun u => List.mem_cons_of_mem _ (List.mem_append_right _ u)) (fun u => List.mem_append_left _ u))) z
      have z3 := st es (fun a y => kp a (y.imp (fun u => List.mem_cons_of_mem _ (List.mem_append_left _ u)) (fun u => List.mem_append_right _ u))) z2
      rw [set_same e2] at z3
      have z4 := TR.nd (k := k) (hn.of (kp p (.inl List.mem_cons_self))) z3
      simp only [Tr.put, e1]
      have el : p :: (L ++ L1) ++ (M' ++ (R1 ++ R)) = p :: (L ++ (L1 ++ (M' ++ R1) ++ R)) := by simp [List.append_assoc]
      rw [el]
      exact z4
  | _ :: _, _, _, _, .fz _, e => by simp [Tr.at] at e
  | _ :: _, _, _, _, .ow _ _, e => by simp [Tr.at] at e
  | _ :: _, _, _, _, .dk _ _ _, e => by simp [Tr.at] at e
  | _ :: _, _, _, _, .dt _ _ _, e => by simp [Tr.at] at e
theorem At.inj {v w w' : V} {t s s' : Tr} {qs : List Nat} (h : At H v t qs w s) (h' : At H v t qs w' s') : w = w' ∧ s = s' := by
  induction h with
  | nil => cases h'; exact ⟨rfl, rfl⟩
  | cons a b c d ih =>
    cases h' with
    | cons a' b' c' d' =>
      have e := a.inj a'
      subst e
      rw [b] at b'; cases b'
      rw [c] at c'; cases c'
      exact ih d'
theorem At.at {v w : V} {t s : Tr} {qs : List Nat} (h : At H v t qs w s) : t.at qs = some s := by
  induction h with
  | nil => cases ‹Tr› <;> rfl
  | cons a b c d ih => simp only [Tr.at, c]; exact ih
theorem At.mono {v w : V} {t s : Tr} {qs : List Nat} (h : At H v t qs w s) : ∀ {Hf : Hp} {F : List Addr}, TR Hf H v t F → (∀ a ∈ F, H' a = H a) → At H' v t qs w s := by
  induction h with
  | nil => intros; exact .nil
  | @cons p k vs ts n v w t s q a b c d ih =>
    intro Hf F r e
    cases r with
    | nd a' r' =>
      have ev := a.inj a'
      subst ev
      obtain ⟨L, M, R, eF, z⟩ := TRs.get r' b c
      refine .cons (a.of (e p List.mem_cons_self)) b c (ih z fun x y => e x (List.mem_cons_of_mem _ ?_))
      rw [eF]
      exact List.mem_append_right _ (List.mem_append_left _ y)
theorem TR.atv {v w : V} {t s : Tr} {qs : List Nat} {F : List Addr} (r : TR Hf H v t F) (h : At H v t qs w s) : ∃ M, TR Hf H w s M ∧ ∀ a ∈ M, a ∈ F := by
  obtain ⟨w', L, M, R, h', e, z, _⟩ := r.focus (s' := .fz .none) h.at
  obtain ⟨e1, _⟩ := h.inj h'
  subst e1
  exact ⟨M, z, fun a y => by rw [e]; exact List.mem_append_right _ (List.mem_append_left _ y)⟩
theorem slok_un {o : Option (Option V)} : SlOk Hf H o .un := by
  cases o with
  | none => trivial
  | some o => cases o <;> trivial
theorem slok_pa {o : Option (Option V)} {i : Nat} {qs : List Nat} : SlOk Hf H o (.pa i qs) := by
  match o with
  | none => trivial
  | some none => trivial
  | some (some v) => cases v <;> trivial
theorem slok_fz {v : V} {d : D} : SlOk Hf H (some (some v)) (.fz d) ↔ Rep Hf v d := by cases v <;> exact Iff.rfl
theorem slok_fz' {o : Option (Option V)} {d : D} (h : SlOk Hf H o (.fz d)) : ∃ v, o = some (some v) ∧ Rep Hf v d := by
  match o, h with
  | some (some v), h => exact ⟨v, rfl, slok_fz.mp h⟩
  | none, h => exact h.elim
  | some none, h => exact h.elim
theorem slok_tr {v : V} {t : Tr} : SlOk Hf H (some (some v)) (.tr t) ↔ ∃ F, TR Hf H v t F ∧ F.Nodup ∧ ∀ a ∈ F, Hf a = none := by cases v <;> exact Iff.rfl
theorem slok_tr' {o : Option (Option V)} {t : Tr} (h : SlOk Hf H o (.tr t)) : ∃ v F, o = some (some v) ∧ TR Hf H v t F ∧ F.Nodup ∧ ∀ a ∈ F, Hf a = none := by
  match o, h with
  | some (some v), h =>
    obtain ⟨F, h⟩ := slok_tr.mp h
    exact ⟨v, F, rfl, h⟩
  | none, h => exact h.elim
  | some none, h => exact h.elim
theorem slok_lk {v : V} {t : Tr} : SlOk Hf H (some (some v)) (.lk t) ↔ ∃ F, TR Hf H v t F := by cases v <;> exact Iff.rfl
theorem slok_lk' {o : Option (Option V)} {t : Tr} (h : SlOk Hf H o (.lk t)) : ∃ v F, o = some (some v) ∧ TR Hf H v t F := by
  match o, h with
  | some (some v), h =>
    obtain ⟨F, h⟩ := slok_lk.mp h
    exact ⟨v, F, rfl, h⟩
  | none, h => exact h.elim
  | some none, h => exact h.elim
theorem slok_ow {o : Option (Option V)} {ds : List D} (h : SlOk Hf H o (.ow ds)) : ∃ p vs, o = some (some (.ref p)) ∧ Hf p = none ∧ H p = some (.lst vs) ∧ RepA Hf vs ds := by
  match o, h with
  | some (some (.ref p)), ⟨h1, vs, h2, h3⟩ => exact ⟨p, vs, rfl, h1, h2, h3⟩
  | none, h => exact h.elim
  | some none, h => exact h.elim
theorem slok_raw {w v : V} : SlOk Hf H (some (some w)) (.raw v) ↔ w = v := by cases w <;> exact Iff.rfl
theorem slok_raw' {o : Option (Option V)} {v : V} (h : SlOk Hf H o (.raw v)) : o = some (some v) := by
  match o, h with
  | some (some w), h => rw [slok_raw.mp h]
  | none, h => exact h.elim
  | some none, h => exact h.elim
theorem owns_ok {v : V} {s : Sl} {a : Addr} (h : SlOk Hf H (some (some v)) s) (o : OwnS H v s a) : Hf a = none ∧ ∃ u, H a = some u ∧ NT u := by
  cases s with
  | ow ds =>
    cases (show v = .ref a from o)
    obtain ⟨h1, vs, h2, _⟩ := h
    exact ⟨h1, _, h2, fun _ z => nomatch z⟩
  | tr t =>
    obtain ⟨Hf0, F0, r0, m⟩ := o
    obtain ⟨F, r, _, h2⟩ := slok_tr.mp h
    have e := r.inj r0
    subst e
    exact ⟨h2 a m, r.obj a m⟩
  | un => exact o.elim
  | fz _ => exact o.elim
  | raw _ => exact o.elim
  | lk _ => exact o.elim
  | pa _ _ => exact o.elim
theorem Rp.ownI (r : Rp Hf H σ ρ) {i : Nat} {a : Addr} (h : OwnI H σ ρ i a) : Hf a = none ∧ ∃ u, H a = some u ∧ NT u := by
  obtain ⟨s, v, e1, e2, o⟩ := h
  have q := r.sl i s e1
  rw [e2] at q
  exact owns_ok q o
theorem Rp.own (r : Rp Hf H σ ρ) {a : Addr} (h : OwnA H σ ρ a) : Hf a = none ∧ ∃ u, H a = some u ∧ NT u := r.ownI h.choose_spec
theorem Rp.lka (r : Rp Hf H σ ρ) {a : Addr} (h : LkA H σ ρ a) : ∃ u, H a = some u ∧ NT u := by
  obtain ⟨i, t, v, Hf0, F, e1, e2, z, m⟩ := h
  exact z.obj a m
theorem ownS_iff {v : V} {s : Sl} (hk : ∀ a, OwnS H v s a → H' a = H a) (hs : SlOk Hf H (some (some v)) s) (a : Addr) : OwnS H' v s a ↔ OwnS H v s a := by
  cases s with
  | tr t =>
    obtain ⟨F, r, _, _⟩ := slok_tr.mp hs
    have kk : ∀ a ∈ F, H' a = H a := fun a m => hk a ⟨Hf, F, r, m⟩
    have r' := r.mono (Same.refl _) kk
    constructor
    · rintro ⟨Hf0, F0, r0, m⟩
      have e := r'.inj r0
      subst e
      exact ⟨Hf, _, r, m⟩
    · rintro ⟨Hf0, F0, r0, m⟩
      have e := r.inj r0
      subst e
      exact ⟨Hf, _, r', m⟩
  | ow _ => exact Iff.rfl
  | un => exact Iff.rfl
  | fz _ => exact Iff.rfl
  | raw _ => exact Iff.rfl
  | lk _ => exact Iff.rfl
  | pa _ _ => exact Iff.rfl
theorem Rp.ownI_iff (r : Rp Hf H σ ρ) {i : Nat} (hk : ∀ a, OwnI H σ ρ i a → H' a = H a) (a : Addr) : OwnI H' σ ρ i a ↔ OwnI H σ ρ i a := by
  constructor
  · rintro ⟨s, v, e1, e2, o⟩
    have q := r.sl i s e1
    rw [e2] at q
    exact ⟨s, v, e1, e2, (ownS_iff (fun b z => hk b ⟨s, v, e1, e2, z⟩) q a).mp o⟩
  · rintro ⟨s, v, e1, e2, o⟩
    have q := r.sl i s e1
    rw [e2] at q
    exact ⟨s, v, e1, e2, (ownS_iff (fun b z => hk b ⟨s, v, e1, e2, z⟩) q a).mpr o⟩
theorem SlOk.mono (e : Same Hf Hf') {v : V} {s : Sl} (hk : ∀ a, OwnS H v s a → Hf' a = none ∧ H' a = H a) (hl : ∀ t F Hf0 a, s = .lk t → TR Hf0 H v t F → a ∈ F → H' a = H a) (h : SlOk Hf H (some (some v)) s) : SlOk Hf' H' (some (some v)) s := by
  cases s with
  | un => exact slok_un
  | pa _ _ => exact slok_pa
  | fz d => exact slok_fz.mpr (rep_same e (slok_fz.mp h))
  | raw w => exact slok_raw.mpr (slok_raw.mp h)
  | ow ds =>
    obtain ⟨p, vs, e1, h1, h2, h3⟩ := slok_ow h
    cases e1
    obtain ⟨g1, g2⟩ := hk p rfl
    exact ⟨g1, vs, by rw [g2]; exact h2, repA_same e h3⟩
  | tr t =>
    obtain ⟨F, r, n, _⟩ := slok_tr.mp h
    exact slok_tr.mpr ⟨F, r.mono e fun a m => (hk a ⟨Hf, F, r, m⟩).2, n, fun a m => (hk a ⟨Hf, F, r, m⟩).1⟩
  | lk t =>
    obtain ⟨F, r⟩ := slok_lk.mp h
    exact slok_lk.mpr ⟨F, r.mono e fun a m => hl t F Hf a rfl r m⟩
theorem slok_none {s : Sl} {o : Option (Option V)} (ho : ∀ v, o ≠ some (some v)) (h : SlOk Hf H o s) : SlOk Hf' H' o s := by
  match o, s, h with
  | none, .un, _ => trivial
  | none, .pa _ _, _ => trivial
  | some none, .un, _ => trivial
  | some none, .pa _ _, _ => trivial
  | some (some v), _, _ => exact absurd rfl (ho v)
theorem Rp.at_mono (r : Rp Hf H σ ρ) {i : Nat} {t s : Tr} {v w : V} {qs : List Nat} (ht : isTr ρ i t) (hv : σ[i]? = some (some v)) (hk : ∀ a, OwnI H σ ρ i a → H' a = H a) (hl : ∀ a, LkA H σ ρ a → H' a = H a) (h : At H v t qs w s) : At H' v t qs w s := by
  rcases ht with e | e
  · have z := r.sl i _ e
    rw [hv] at z
    obtain ⟨F, rr, _, _⟩ := slok_tr.mp z
    exact h.mono rr fun a m => hk a ⟨_, v, e, hv, Hf, F, rr, m⟩
  · have z := r.sl i _ e
    rw [hv] at z
    obtain ⟨F, rr⟩ := slok_lk.mp z
    exact h.mono rr fun a m => hl a ⟨i, t, v, Hf, F, e, hv, rr, m⟩
theorem Rp.lka_of (r : Rp Hf H σ ρ) (l : ∀ a, LkA H σ ρ a → H' a = H a) {a : Addr} (h1 : LkA H' σ ρ a) : LkA H σ ρ a := by
  obtain ⟨i, tt, v, Hf0, F, e1, e2, z, m⟩ := h1
  have sk := r.sl i _ e1
  rw [e2] at sk
  obtain ⟨F1, r1⟩ := slok_lk.mp sk
  have r2 : TR Hf H' v tt F1 := r1.mono (Same.refl _) fun b m => l b ⟨i, tt, v, Hf, F1, e1, e2, r1, m⟩
  have ee := r2.inj z
  subst ee
  exact ⟨i, tt, v, Hf, _, e1, e2, r1, m⟩
theorem Rp.grow (r : Rp Hf H σ ρ) (e : Same Hf Hf') (e' : Same Hf' H') (t : Tb H') (nt : NtH Hf') (o : ∀ a, OwnA H σ ρ a → Hf' a = none ∧ H' a = H a) (l : ∀ a, LkA H σ ρ a → H' a = H a) : Rp Hf' H' σ ρ := by
  have oi : ∀ i a, OwnI H' σ ρ i a ↔ OwnI H σ ρ i a := fun i a => r.ownI_iff (fun b z => (o b ⟨i, z⟩).2) a
  have oa : ∀ a, OwnA H' σ ρ a ↔ OwnA H σ ρ a := fun a => ⟨fun ⟨i, z⟩ => ⟨i, (oi i a).mp z⟩, fun ⟨i, z⟩ => ⟨i, (oi i a).mpr z⟩⟩
  refine ⟨e', t, nt, r.len, fun i s h => ?_, fun i j a h1 h2 => r.nd i j a ((oi i a).mp h1) ((oi j a).mp h2), fun a h1 h2 => ?_, fun j i qs t h1 h2 => ?_⟩
  · have z := r.sl i s h
    by_cases hv : ∃ v, σ[i]? = some (some v)
    · obtain ⟨v, hv⟩ := hv
      rw [hv] at z ⊢
      refine z.mono e (fun a q => o a ⟨i, s, v, h, hv, q⟩) fun t F Hf0 a es rr m => ?_
      subst es
      exact l a ⟨i, t, v, Hf0, F, h, hv, rr, m⟩
    · exact slok_none (fun v q => hv ⟨v, q⟩) z
  · obtain ⟨i, tt, v, Hf0, F, e1, e2, z, m⟩ := h1
    have sk := r.sl i _ e1
    rw [e2] at sk
    obtain ⟨F1, r1⟩ := slok_lk.mp sk
    have r2 : TR Hf H' v tt F1 := r1.mono (Same.refl _) fun b m => l b ⟨i, tt, v, Hf, F1, e1, e2, r1, m⟩
    have ee := r2.inj z
    subst ee
    exact r.lk a ⟨i, tt, v, Hf, _, e1, e2, r1, m⟩ ((oa a).mp h2)
  · obtain ⟨v, w, s, g1, g2, g3⟩ := r.al j i qs t h1 h2
    exact ⟨v, w, s, g1, g2, r.at_mono h2 g1 (fun a z => (o a ⟨i, z⟩).2) l g3⟩
theorem Quiet.refl : Quiet σ ρ H σ ρ H := fun i t e => ⟨e, rfl, fun _ _ => rfl⟩
theorem Stay.refl : Stay σ ρ σ ρ := fun i _ => ⟨rfl, rfl⟩
theorem Stay.trans (a : Stay σ ρ σ1 ρ1) (b : Stay σ1 ρ1 σ2 ρ2) : Stay σ ρ σ2 ρ2 := fun i h => by
  obtain ⟨e1, e2⟩ := a i h
  rw [← e1] at h
  obtain ⟨e3, e4⟩ := b i h
  exact ⟨e3.trans e1, e4.trans e2⟩
theorem Quiet.trans (a : Quiet σ ρ H σ1 ρ1 H1) (b : Quiet σ1 ρ1 H1 σ2 ρ2 H2) : Quiet σ ρ H σ2 ρ2 H2 := fun i t e => by
  obtain ⟨e1, e2, e3⟩ := a i t e
  obtain ⟨f1, f2, f3⟩ := b i t e1
  refine ⟨f1, f2.trans e2, fun x h => ?_⟩
  obtain ⟨s, v, g1, g2, g3⟩ := h
  rw [e] at g1
  cases g1
  obtain ⟨Hf0, F, r, m⟩ := g3
  have r1 : TR Hf0 H1 v t F := r.mono (Same.refl _) fun y z => e3 y ⟨_, v, e, g2, Hf0, F, r, z⟩
  exact (f3 x ⟨_, v, e1, e2.trans g2, Hf0, F, r1, m⟩).trans (e3 x ⟨_, v, e, g2, Hf0, F, r, m⟩)
theorem Nxt.refl (r : Rp Hf H σ ρ) : Nxt q σ ρ Hf H σ ρ Hf H := ⟨Same.refl _, fun _ _ h _ _ => h, fun _ h => .inl h, fun _ h => h, fun _ h => h, fun _ h => .inl h, fun _ => ⟨.refl, .refl⟩, r⟩
theorem Nxt.trans (a : Nxt q σ ρ Hf H σ1 ρ1 Hf1 H1) (b : Nxt q σ1 ρ1 Hf1 H1 σ2 ρ2 Hf2 H2) : Nxt q σ ρ Hf H σ2 ρ2 Hf2 H2 where
  sub := a.sub.trans b.sub
  keep := fun x o h t n => b.keep x o (a.keep x o h t n) t fun z => (a.os x z).elim n fun q => by rw [h] at q; cases q
  os := fun x z => (b.os x z).elim (a.os x) fun q => .inr (a.dom x q)
  ls := fun x h => a.ls x (b.ls x h)
  dom := fun x h => a.dom x (b.dom x h)
  fr := fun x h => (a.fr x h).elim (fun h1 => (b.fr x h1).elim .inl fun q => .inr (q.elim (fun z => .inl (a.dom x z)) fun z => (a.os x z).elim .inr .inl)) .inr
  qt := fun hq => ⟨.trans (a.qt hq).1 (b.qt hq).1, .trans (a.qt hq).2 (b.qt hq).2⟩
  rp := b.rp
theorem Nxt.any (a : Nxt q σ ρ Hf H σ1 ρ1 Hf1 H1) : Nxt false σ ρ Hf H σ1 ρ1 Hf1 H1 := ⟨a.sub, a.keep, a.os, a.ls, a.dom, a.fr, (fun z => nomatch z), a.rp⟩
theorem same_new {p : Addr} {o : HO} (h : H p = none) : Same H (upd H p o) := fun b x e => by
  rw [upd_ne (ne_of_none e h)]
  exact e
theorem same_upd2 {p : Addr} {o : HO} (e : Same Hf H) : Same (upd Hf p o) (upd H p o) := fun b x h => by
  by_cases q : b = p
  · subst q
    rw [upd_same] at h ⊢
    exact h
  · rw [upd_ne q] at h ⊢
    exact e _ _ h
theorem NtH.upd {p : Addr} {o : HO} (n : NtH Hf) (h : NT o) : NtH (upd Hf p o) := fun a ps z => by
  by_cases q : a = p
  · rw [q, upd_same] at z
    exact h ps (Option.some.inj z)
  · rw [upd_ne q] at z
    exact n a ps z
theorem Tb.upd {p : Addr} {o : HO} (t : Tb H) (h : H p = none) : Tb (L2.upd H p o) := LamX.Tabs.ext t fun b x e => by
  rw [upd_ne (ne_of_none e h)]
  exact e
theorem NT.lst {xs : List V} : NT (.lst xs) := fun _ z => by cases z
theorem NT.tup {xs : List V} : NT (.tup xs) := fun _ z => by cases z
theorem Tb.setO {p : Addr} {o o' : HO} (t : Tb H) (h : H p = some o) (ho : NT o) (hx : ∀ φ, o ≠ .ext φ) : Tb (L2.upd H p o') := fun x hx' => by
  obtain ⟨ps, a1, a2, a3⟩ := t x hx'
  have n1 : x.1 ≠ p := fun z => by rw [z, h] at a1; exact ho ps (Option.some.inj a1)
  refine ⟨ps, by rw [upd_ne n1]; exact a1, a2, fun pos cv hc => ?_⟩
  obtain ⟨c, e1, e2⟩ := a3 pos cv hc
  refine ⟨c, e1, ?_⟩
  have n2 : c ≠ p := fun z => by
    rw [z, h] at e2
    unfold LamX.CodeO at e2
    exact hx _ (Option.some.inj e2)
  rw [upd_ne n2]
  exact e2
theorem Tb.set {p : Addr} {vs ws : List V} (t : Tb H) (h : H p = some (.lst vs)) : Tb (L2.upd H p (.lst ws)) := t.setO h NT.lst fun _ z => nomatch z
theorem Rp.liv (r : Rp Hf H σ ρ) {a : Addr} (h : OwnA H σ ρ a ∨ LkA H σ ρ a) : ∃ u, H a = some u ∧ NT u := h.elim (fun z => (r.own z).2) r.lka
theorem Rp.new (r : Rp Hf H σ ρ) {p : Addr} {o : HO} (h : H p = none) (ho : NT o := by first | exact NT.lst | exact NT.tup) : Nxt q σ ρ Hf H σ ρ (upd Hf p o) (upd H p o) := by
  have hf : Hf p = none := r.sub.free h
  have ne : ∀ a, OwnA H σ ρ a ∨ LkA H σ ρ a → a ≠ p := fun a z => by
    obtain ⟨u, hu, _⟩ := r.liv z
    exact ne_of_none hu h
  have rg : Rp (upd Hf p o) (upd H p o) σ ρ := r.grow (same_new hf) (same_upd2 r.sub) (r.tb.upd h) (r.nt.upd ho) (fun a z => ⟨by rw [upd_ne (ne a (.inl z))]; exact (r.own z).1, upd_ne (ne a (.inl z))⟩) fun a z => upd_ne (ne a (.inr z))
  refine ⟨same_new hf, fun a x e _ _ => same_new h a x e, fun a ⟨i, z⟩ => .inl ⟨i, (r.ownI_iff (fun b y => upd_ne (ne b (.inl ⟨i, y⟩))) a).mp z⟩, fun a z => r.lka_of (fun b y => upd_ne (ne b (.inr y))) z, fun a => (same_new h).free, fun a z => by
    by_cases q : a = p
    · exact .inr (.inl (q ▸ h))
    · exact .inl (by rw [upd_ne q]; exact z), fun _ => ⟨fun i t e => ⟨e, rfl, fun a z => upd_ne (ne a (.inl ⟨i, z⟩))⟩, .refl⟩, rg⟩
theorem Rp.newO (r : Rp Hf H σ ρ) {p : Addr} {o : HO} (h : H p = none) : Nxt q σ ρ Hf H σ ρ Hf (upd H p o) := by
  have ne : ∀ a, OwnA H σ ρ a ∨ LkA H σ ρ a → a ≠ p := fun a z => by
    obtain ⟨u, hu, _⟩ := r.liv z
    exact ne_of_none hu h
  refine ⟨Same.refl _, fun a x e _ _ => same_new h a x e, fun a ⟨i, z⟩ => .inl ⟨i, (r.ownI_iff (fun b y => upd_ne (ne b (.inl ⟨i, y⟩))) a).mp z⟩, fun a z => r.lka_of (fun b y => upd_ne (ne b (.inr y))) z, fun a => (same_new h).free, fun _ z => .inl z, fun _ => ⟨fun i t e => ⟨e, rfl, fun a z => upd_ne (ne a (.inl ⟨i, z⟩))⟩, .refl⟩, r.grow (Same.refl _) (r.sub.trans (same_new h)) (r.tb.upd h) r.nt (fun a z => ⟨(r.own z).1, upd_ne (ne a (.inl z))⟩) fun a z => upd_ne (ne a (.inr z))⟩
def Hless : Sl → Prop
  | .un => True
  | .fz _ => True
  | .raw _ => True
  | _ => False
theorem Rp.weak (r : Rp Hf H σ ρ) (hl : ρ'.length ≤ σ'.length) (h : ∀ (j : Nat) (s : Sl), ρ'[j]? = some s → (ρ[j]? = some s ∧ σ'[j]? = σ[j]?) ∨ (Hless s ∧ SlOk Hf H σ'[j]? s)) : Nxt false σ ρ Hf H σ' ρ' Hf H := by
  have oi : ∀ i a, OwnI H σ' ρ' i a → OwnI H σ ρ i a := fun i a ⟨s, v, e1, e2, o⟩ => by
    rcases h i s e1 with ⟨g1, g2⟩ | ⟨g1, _⟩
    · exact ⟨s, v, g1, g2 ▸ e2, o⟩
    · cases s <;> first | exact o.elim | exact g1.elim
  have oa : ∀ a, OwnA H σ' ρ' a → OwnA H σ ρ a := fun a ⟨i, z⟩ => ⟨i, oi i a z⟩
  have tr : ∀ i t, isTr ρ' i t → isTr ρ i t ∧ σ'[i]? = σ[i]? := fun i t z => by
    rcases z with e | e
    · rcases h i _ e with ⟨g1, g2⟩ | ⟨g1, _⟩
      · exact ⟨.inl g1, g2⟩
      · exact g1.elim
    · rcases h i _ e with ⟨g1, g2⟩ | ⟨g1, _⟩
      · exact ⟨.inr g1, g2⟩
      · exact g1.elim
  have lkk : ∀ a, LkA H σ' ρ' a → LkA H σ ρ a := fun a ⟨i, t, v, Hf0, F, e1, e2, z, m⟩ => by
    rcases h i _ e1 with ⟨g1, g2⟩ | ⟨g1, _⟩
    · exact ⟨i, t, v, Hf0, F, g1, g2 ▸ e2, z, m⟩
    · exact g1.elim
  refine ⟨Same.refl _, fun _ _ h _ _ => h, fun a z => .inl (oa a z), lkk, fun _ h => h, fun _ h => .inl h, (fun z => nomatch z), r.sub, r.tb, r.nt, hl, fun i s e => ?_, fun i j a h1 h2 => r.nd i j a (oi i a h1) (oi j a h2), fun a ⟨i, t, v, Hf0, F, e1, e2, z, m⟩ h2 => ?_, fun j i qs t h1 h2 => ?_⟩
  · rcases h i s e with ⟨g1, g2⟩ | ⟨_, g⟩
    · rw [g2]; exact r.sl i s g1
    · exact g
  · obtain ⟨g1, g2⟩ := tr i t (.inr e1)
    rcases h i _ e1 with ⟨g1, g2⟩ | ⟨g1, _⟩
    · exact r.lk a ⟨i, t, v, Hf0, F, g1, g2 ▸ e2, z, m⟩ (oa a h2)
    · exact g1.elim
  · obtain ⟨g1, g2⟩ := tr i t h2
    rcases h j _ h1 with ⟨k1, k2⟩ | ⟨k1, _⟩
    · obtain ⟨v, w, s, a1, a2, a3⟩ := r.al j i qs t k1 g1
      exact ⟨v, w, s, g2.trans a1, k2.trans a2, a3⟩
    · exact k1.elim
theorem Rp.chgsF (r : Rp Hf H σ ρ) (I : Nat → Prop) (Fl : Addr → Prop) (hFl : ∀ a, Fl a → ¬ OwnA H σ ρ a ∧ ¬ LkA H σ ρ a) (hl : ρ'.length ≤ σ.length) (sub : Same Hf Hf') (sub' : Same Hf' H') (tb : Tb H') (nt : NtH Hf')
    (keep : ∀ a o, H a = some o → NT o → (∀ i, I i → ¬ OwnI H σ ρ i a) → H' a = some o) (dom : ∀ a, H' a = none → H a = none) (fr : ∀ a, Hf a = none → Hf' a = none ∨ H a = none ∨ ∃ i, I i ∧ OwnI H σ ρ i a)
    (same : ∀ (j : Nat) (s : Sl), ¬ I j → ρ'[j]? = some s → ρ[j]? = some s ∨ s = .un) (nlk : ∀ (i : Nat) (s : Sl), I i → ρ'[i]? = some s → (∀ t, s ≠ .lk t) ∧ ∀ k qs, s ≠ .pa k qs)
    (al : ∀ (j i : Nat) (qs : List Nat) (t : Tr), ρ'[j]? = some (.pa i qs) → isTr ρ' i t → I i → ∃ v w s, σ[i]? = some (some v) ∧ σ[j]? = some (some w) ∧ At H' v t qs w s)
    (ok : ∀ (i : Nat) (s : Sl), I i → ρ'[i]? = some s → SlOk Hf' H' σ[i]? s) (own : ∀ i a, I i → OwnI H' σ ρ' i a → (∃ k, I k ∧ OwnI H σ ρ k a) ∨ H a = none ∨ Fl a)
    (nd : ∀ i j a, I i → I j → OwnI H' σ ρ' i a → OwnI H' σ ρ' j a → i = j) : Rp Hf' H' σ ρ' ∧ (∀ a, OwnA H' σ ρ' a → OwnA H σ ρ a ∨ H a = none ∨ Fl a) ∧ (∀ a, LkA H' σ ρ' a → LkA H σ ρ a) ∧ ∀ j a, ¬ I j → OwnI H σ ρ j a → H' a = H a := by
  have ko : ∀ j a, ¬ I j → OwnI H σ ρ j a → H' a = H a := fun j a hj z => by
    obtain ⟨u, hu, tu⟩ := (r.ownI z).2
    rw [hu]
    exact keep a u hu tu fun i hi w => hj (r.nd i j a w z ▸ hi)
  have kl : ∀ a, LkA H σ ρ a → H' a = H a := fun a z => by
    obtain ⟨u, hu, tu⟩ := r.lka z
    rw [hu]
    exact keep a u hu tu fun i _ w => r.lk a z ⟨i, w⟩
  have oj : ∀ j a, ¬ I j → OwnI H' σ ρ' j a → OwnI H σ ρ j a := fun j a hj ⟨s, v, e1, e2, o⟩ => by
    rcases same j s hj e1 with e | e
    · exact (r.ownI_iff (fun b z => ko j b hj z) a).mp ⟨s, v, e, e2, o⟩
    · subst e; exact o.elim
  have oa : ∀ a, OwnA H' σ ρ' a → OwnA H σ ρ a ∨ H a = none ∨ Fl a := fun a ⟨j, z⟩ => by
    by_cases hj : I j
    · exact (own j a hj z).imp (fun ⟨k, _, w⟩ => ⟨k, w⟩) id
    · exact .inl ⟨j, oj j a hj z⟩
  have tri : ∀ i t, ¬ I i → isTr ρ' i t → isTr ρ i t := fun i t hi z => by
    rcases z with e | e
    · rcases same i _ hi e with e | e
      · exact .inl e
      · cases e
    · rcases same i _ hi e with e | e
      · exact .inr e
      · cases e
  have lkk : ∀ a, LkA H' σ ρ' a → LkA H σ ρ a := fun a ⟨i, t, v, Hf0, F, e1, e2, z, m⟩ => by
    have hi : ¬ I i := fun y => (nlk i _ y e1).1 t rfl
    rcases same i _ hi e1 with e | e
    · exact r.lka_of kl ⟨i, t, v, Hf0, F, e, e2, z, m⟩
    · cases e
  refine ⟨⟨sub', tb, nt, hl, fun i s e => ?_, fun i j a h1 h2 => ?_, fun a ⟨i, t, v, Hf0, F, e1, e2, z, m⟩ h2 => ?_, fun j i qs t h1 h2 => ?_⟩, oa, lkk, ko⟩
  · by_cases hi : I i
    · exact ok i s hi e
    · rcases same i s hi e with e | e
      · have z := r.sl i s e
        by_cases hv : ∃ v, σ[i]? = some (some v)
        · obtain ⟨v, hv⟩ := hv
          rw [hv] at z ⊢
          refine z.mono sub (fun a w => ?_) fun t F Hf0 a es rr m => ?_
          · have w' : OwnI H σ ρ i a := ⟨s, v, e, hv, w⟩
            refine ⟨(fr a (r.ownI w').1).elim id fun y => y.elim (fun y => ?_) fun ⟨k, hk, y⟩ => ?_, ko i a hi w'⟩
            · obtain ⟨u, hu, _⟩ := (r.ownI w').2
              rw [hu] at y; cases y
            · exact absurd (r.nd k i a y w' ▸ hk) hi
          · subst es
            exact kl a ⟨i, t, v, Hf0, F, e, hv, rr, m⟩
        · exact slok_none (fun v q => hv ⟨v, q⟩) z
      · subst e; exact slok_un
  · by_cases hi : I i
    · by_cases hj : I j
      · exact nd i j a hi hj h1 h2
      · have z2 := oj j a hj h2
        rcases own i a hi h1 with ⟨k, hk, z⟩ | z | z
        · exact absurd (r.nd k j a z z2 ▸ hk) hj
        rotate_left
        · exact absurd ⟨j, z2⟩ (hFl a z).1
        · obtain ⟨u, hu, _⟩ := (r.ownI z2).2
          rw [hu] at z; cases z
    · have z1 := oj i a hi h1
      by_cases hj : I j
      · rcases own j a hj h2 with ⟨k, hk, z⟩ | z | z
        · exact absurd (r.nd k i a z z1 ▸ hk) hi
        rotate_left
        · exact absurd ⟨i, z1⟩ (hFl a z).1
        · obtain ⟨u, hu, _⟩ := (r.ownI z1).2
          rw [hu] at z; cases z
      · exact r.nd i j a z1 (oj j a hj h2)
  · have hi : ¬ I i := fun y => (nlk i _ y e1).1 t rfl
    rcases same i _ hi e1 with e | e
    · have sk := r.sl i _ e
      rw [e2] at sk
      obtain ⟨F1, r1⟩ := slok_lk.mp sk
      have r2 : TR Hf H' v t F1 := r1.mono (Same.refl _) fun b m => kl b ⟨i, t, v, Hf, F1, e, e2, r1, m⟩
      have ee := r2.inj z
      subst ee
      have la : LkA H σ ρ a := ⟨i, t, v, Hf, _, e, e2, r1, m⟩
      rcases oa a h2 with y | y | y
      · exact r.lk a la y
      rotate_left
      · exact (hFl a y).2 la
      · obtain ⟨u, hu, _⟩ := r.lka la
        rw [hu] at y; cases y
    · cases e
  · by_cases hi : I i
    · exact al j i qs t h1 h2 hi
    · have hj : ¬ I j := fun y => (nlk j _ y h1).2 i qs rfl
      rcases same j _ hj h1 with e | e
      · have ti := tri i t hi h2
        obtain ⟨v, w, s, g1, g2, g3⟩ := r.al j i qs t e ti
        exact ⟨v, w, s, g1, g2, r.at_mono ti g1 (fun a z => ko i a hi z) kl g3⟩
      · cases e
theorem Rp.chgs (r : Rp Hf H σ ρ) (I : Nat → Prop) (hl : ρ'.length ≤ σ.length) (sub : Same Hf Hf') (sub' : Same Hf' H') (tb : Tb H') (nt : NtH Hf')
    (keep : ∀ a o, H a = some o → NT o → (∀ i, I i → ¬ OwnI H σ ρ i a) → H' a = some o) (dom : ∀ a, H' a = none → H a = none) (fr : ∀ a, Hf a = none → Hf' a = none ∨ H a = none ∨ ∃ i, I i ∧ OwnI H σ ρ i a)
    (same : ∀ (j : Nat) (s : Sl), ¬ I j → ρ'[j]? = some s → ρ[j]? = some s ∨ s = .un) (nlk : ∀ (i : Nat) (s : Sl), I i → ρ'[i]? = some s → (∀ t, s ≠ .lk t) ∧ ∀ k qs, s ≠ .pa k qs)
    (al : ∀ (j i : Nat) (qs : List Nat) (t : Tr), ρ'[j]? = some (.pa i qs) → isTr ρ' i t → I i → ∃ v w s, σ[i]? = some (some v) ∧ σ[j]? = some (some w) ∧ At H' v t qs w s)
    (ok : ∀ (i : Nat) (s : Sl), I i → ρ'[i]? = some s → SlOk Hf' H' σ[i]? s) (own : ∀ i a, I i → OwnI H' σ ρ' i a → (∃ k, I k ∧ OwnI H σ ρ k a) ∨ H a = none)
    (nd : ∀ i j a, I i → I j → OwnI H' σ ρ' i a → OwnI H' σ ρ' j a → i = j)
    (qt : q = true → (∀ (i : Nat) (s : Sl), I i → ρ[i]? = some s → (∀ t, s ≠ .tr t) ∧ (∀ t, s ≠ .lk t) ∧ ∀ k qs, s ≠ .pa k qs) ∧ ∀ j : Nat, ¬ I j → ρ'[j]? = ρ[j]?) : Nxt q σ ρ Hf H σ ρ' Hf' H' := by
  obtain ⟨rp', oa, lkk, ko⟩ := r.chgsF I (fun _ => False) (fun _ z => z.elim) hl sub sub' tb nt keep dom fr same nlk al ok (fun i a hi z => (own i a hi z).imp id .inl) nd
  refine ⟨sub, fun a o h t n => keep a o h t fun i _ z => n ⟨i, z⟩, fun a z => (oa a z).imp id fun y => y.elim id False.elim, lkk, dom, fun a z => (fr a z).imp id fun w => w.imp id fun ⟨i, _, y⟩ => ⟨i, y⟩, fun hq => ?_, rp'⟩
  obtain ⟨q1, q2⟩ := qt hq
  refine ⟨fun i t e => ?_, fun i h => ?_⟩
  · have hi : ¬ I i := fun z => (q1 i _ z e).1 t rfl
    exact ⟨(q2 i hi).trans e, rfl, fun a z => ko i a hi z⟩
  · have hi : ¬ I i := fun z => by
      rcases h with ⟨t, e⟩ | ⟨k, qs, e⟩
      · exact (q1 i _ z e).2.1 t rfl
      · exact (q1 i _ z e).2.2 k qs rfl
    exact ⟨q2 i hi, rfl⟩
end
end Fx
namespace Fx
open PySem L2
variable [Tabz]
section
variable {q : Bool} {Hf Hf' H H' : Hp} {σ σ' : St} {ρ ρ' : Rho}
theorem ownI_ow {i : Nat} {ds : List D} {p : Addr} (hi : ρ[i]? = some (.ow ds)) (hp : σ[i]? = some (some (.ref p))) {a : Addr} : OwnI H σ ρ i a ↔ a = p := by
  constructor
  · rintro ⟨s, v, e1, e2, o⟩
    rw [hi] at e1; cases e1
    rw [hp] at e2; cases e2
    cases (show V.ref p = .ref a from o)
    rfl
  · rintro rfl
    exact ⟨_, _, hi, hp, rfl⟩
def Fre (H : Hp) (σ : St) (ρ : Rho) (p : Addr) : Prop := H p = none ∨ OwnA H σ ρ p
theorem Fre.back {Hf1 H1 : Hp} {σ1 : St} {ρ1 : Rho} (n : Nxt q σ ρ Hf H σ1 ρ1 Hf1 H1) {p : Addr} (h : Fre H1 σ1 ρ1 p) : Fre H σ ρ p := h.elim (fun z => .inl (n.dom p z)) fun z => (n.os p z).elim .inr .inl
theorem Fre.notLk (r : Rp Hf H σ ρ) {p : Addr} (h : Fre H σ ρ p) : ¬ LkA H σ ρ p := fun z => h.elim (fun y => by
  obtain ⟨o, ho, _⟩ := r.lka z
  rw [y] at ho; cases ho) (r.lk p z)
theorem Rp.chgO (r : Rp Hf H σ ρ) {i : Nat} {ds : List D} {p : Addr} {s' : Sl} (hi : ρ[i]? = some (.ow ds)) (hp : σ[i]? = some (some (.ref p))) (hs : Hless s' ∨ ∃ es, s' = .ow es) (sub : Same Hf Hf') (sub' : Same Hf' H') (tb : Tb H') (nt : NtH Hf')
    (keep : ∀ a o, H a = some o → NT o → a ≠ p → H' a = some o) (dom : ∀ a, H' a = none → H a = none) (fr : ∀ a, Hf a = none → Hf' a = none ∨ H a = none ∨ a = p) (ok : SlOk Hf' H' (some (some (.ref p))) s') : Nxt q σ ρ Hf H σ (ρ.set i s') Hf' H' := by
  have hlt : i < ρ.length := (List.getElem?_eq_some_iff.mp hi).1
  have gi : (ρ.set i s')[i]? = some s' := by rw [List.getElem?_set, if_pos rfl, if_pos hlt]
  have gj : ∀ j, j ≠ i → (ρ.set i s')[j]? = ρ[j]? := fun j n => by rw [List.getElem?_set, if_neg fun z => n z.symm]
  have ow' : ∀ a, OwnI H' σ (ρ.set i s') i a → a = p := fun a ⟨s, v, e1, e2, o⟩ => by
    rw [gi] at e1; cases e1
    rw [hp] at e2; cases e2
    rcases hs with h | ⟨es, rfl⟩
    · cases s' <;> first | exact o.elim | exact h.elim
    · cases (show V.ref p = .ref a from o); rfl
  refine r.chgs (· = i) (by rw [List.length_set]; exact r.len) sub sub' tb nt (fun a o h t n => keep a o h t fun z => n i rfl ((ownI_ow hi hp).mpr z)) dom (fun a z => (fr a z).imp id fun w => w.imp id fun y => ⟨i, rfl, (ownI_ow hi hp).mpr y⟩) (fun j s n e => .inl (by rw [← gj j n]; exact e)) ?_ ?_ ?_ ?_ ?_ ?_
  · rintro _ s rfl e
    rw [gi] at e; cases e
    rcases hs with h | ⟨es, rfl⟩
    · constructor
      · rintro t rfl; exact h.elim
      · rintro k qs rfl; exact h.elim
    · exact ⟨(fun _ z => nomatch z), (fun _ _ z => nomatch z)⟩
  · rintro j _ qs t h1 h2 rfl
    rcases h2 with e | e
    · rw [gi] at e; cases e
      rcases hs with h | ⟨es, h⟩
      · exact h.elim
      · cases h
    · rw [gi] at e; cases e
      rcases hs with h | ⟨es, h⟩
      · exact h.elim
      · cases h
  · rintro _ s rfl e
    rw [gi] at e; cases e
    rw [hp]; exact ok
  · rintro _ a rfl z
    exact .inl ⟨_, rfl, (ownI_ow hi hp).mpr (ow' a z)⟩
  · rintro _ _ a rfl rfl _ _; rfl
  · intro _
    refine ⟨?_, fun j n => gj j n⟩
    rintro _ s rfl e
    rw [hi] at e; cases e
    exact ⟨(fun _ z => nomatch z), (fun _ z => nomatch z), (fun _ _ z => nomatch z)⟩
end
section
variable {α β γ δ : Type}
inductive Res (α : Type) where
  | ok (p : α × Rho)
  | exc (c : Str) (ρ : Rho)
  | bad
abbrev M (α : Type) := Rho → Res α
@[simp] def bnd (f : M α) (k : α → M γ) : M γ := fun ρ => match f ρ with
  | .ok (a, ρ1) => k a ρ1
  | .exc c ρ1 => .exc c ρ1
  | .bad => .bad
@[simp] def ret (a : α) : M α := fun ρ => .ok (a, ρ)
@[simp] def opt (o : Option α) : M α := fun ρ => match o with
  | some a => .ok (a, ρ)
  | none => .bad
structure Gx where
  W : WX
  cA : Str → Addr
  q : Bool
def AfG (G : Gx) (R : Hp → β → α → Prop) (σ : St) (ρ : Rho) (Hf H : Hp) (Q : β → Hp → Prop) : Res α → Prop
  | .ok (a, ρ') => ∀ x Hf' H', Nxt G.q σ ρ Hf H σ ρ' Hf' H' → R Hf' x a → Q x H'
  | .exc c ρ' => ∀ Hf' H', Nxt G.q σ ρ Hf H σ ρ' Hf' H' → G.W (.ref (G.cA c)) none σ H'
  | .bad => False
def tG (G : Gx) (R : Hp → β → α → Prop) (f : M α) : St → Hp → (β → Hp → Prop) → Prop := fun σ H Q =>
  ∃ Hf ρ, Rp Hf H σ ρ ∧ AfG G R σ ρ Hf H Q (f ρ)
variable {G : Gx} {R : Hp → β → α → Prop} {R1 : Hp → δ → γ → Prop} {σ : St} {ρ ρ1 : Rho} {Hf H Hf1 H1 : Hp} {Q Q' : β → Hp → Prop} {f : M α} {g : M γ} {k : γ → M α}
theorem AfG.mono (h : ∀ x H, Q x H → Q' x H) : ∀ {o : Res α}, AfG G R σ ρ Hf H Q o → AfG G R σ ρ Hf H Q' o
  | .ok (a, ρ'), q => fun x Hf' H' n r => h x H' (q x Hf' H' n r)
  | .exc c ρ', q => q
  | .bad, q => q
theorem tG.mono (h : ∀ x H, Q x H → Q' x H) (t : tG G R f σ H Q) : tG G R f σ H Q' := by
  obtain ⟨Hf, ρ, rp, q⟩ := t
  exact ⟨Hf, ρ, rp, q.mono h⟩
theorem AfG.later (n : Nxt G.q σ ρ Hf H σ ρ1 Hf1 H1) : ∀ {o : Res α}, AfG G R σ ρ Hf H Q o → AfG G R σ ρ1 Hf1 H1 Q o
  | .ok (a, ρ'), q => fun x Hf' H' n' r => q x Hf' H' (n.trans n') r
  | .exc c ρ', q => fun Hf' H' n' => q Hf' H' (n.trans n')
  | .bad, q => q
theorem step (rp : Rp Hf H σ ρ) (af : AfG G R σ ρ Hf H Q (bnd g k ρ)) :
    tG G R1 g σ H fun y H1 => ∃ b Hf1 ρ1, Nxt G.q σ ρ Hf H σ ρ1 Hf1 H1 ∧ R1 Hf1 y b ∧ AfG G R σ ρ1 Hf1 H1 Q (k b ρ1) := by
  refine ⟨Hf, ρ, rp, ?_⟩
  unfold bnd at af
  cases e : g ρ with
  | ok p =>
    obtain ⟨b, ρ1⟩ := p
    rw [e] at af
    exact fun x Hf1 H1 n r => ⟨b, Hf1, ρ1, n, r, af.later n⟩
  | exc c ρ1 => rw [e] at af; exact af
  | bad => rw [e] at af; exact af
theorem fin {a : α} (rp : Rp Hf H σ ρ) (af : AfG G R σ ρ Hf H Q (ret a ρ)) {x : β} (r : R Hf x a) : Q x H := af x Hf H (.refl rp) r
theorem finO {o : Option α} (rp : Rp Hf H σ ρ) (af : AfG G R σ ρ Hf H Q (opt o ρ)) : ∃ a, o = some a ∧ ∀ x, R Hf x a → Q x H := by
  cases o with
  | none => exact af.elim
  | some a => exact ⟨a, rfl, fun x r => af x Hf H (.refl rp) r⟩
end
abbrev tE (G : Gx) (f : M D) : TE := tG G Rep f
abbrev tT (G : Gx) (f : M Bool) : TT := tG G (fun _ b c => b = c) f
abbrev tA (G : Gx) (f : M (List D)) : TA := tG G RepA f
section
variable {X : Cx} {G : Gx} {e a b : Expr} {es : List Expr} {f g : M D} {pos : Pos}
theorem _root_.L2.PE.imp {t t' : TE} (h : PE X e t) (i : ∀ σ H Q, t' σ H Q → t σ H Q) : PE X e t' := ⟨fun pins s σ H Q I q => h.run pins s σ H Q I (i _ _ _ q)⟩
theorem _root_.L2.PT.imp {t t' : TT} (h : PT X e t) (i : ∀ σ H Q, t' σ H Q → t σ H Q) : PT X e t' := ⟨fun pins s σ H Q I q => h.run pins s σ H Q I (i _ _ _ q)⟩
theorem _root_.L2.PA.imp {t t' : TA} (h : PA X es t) (i : ∀ σ H Q, t' σ H Q → t σ H Q) : PA X es t' := ⟨fun ps pins s σ H Q I q => h.run ps pins s σ H Q I (i _ _ _ q)⟩
theorem _root_.L2.PS.imp {st : Stmt} {t t' : TS} (h : PS X st t) (i : ∀ D σ H, t' D σ H → t D σ H) : PS X st t' := ⟨fun pins s σ H D I q => h.run pins s σ H D I (i _ _ _ q)⟩
theorem _root_.L2.PSs.imp {st : List Stmt} {t t' : TS} (h : PSs X st t) (i : ∀ D σ H, t' D σ H → t D σ H) : PSs X st t' := ⟨fun pins s σ H D I q => h.run pins s σ H D I (i _ _ _ q)⟩
@[simp] def fVar (i : Nat) : M D := fun ρ => match ρ[i]? with
  | some (.fz d) => .ok (d, ρ)
  | some (.ow ds) => .ok (.list ds, ρ.set i (.fz (.list ds)))
  | _ => .bad
theorem Rp.freeze {q : Bool} {Hf H : Hp} {σ : St} {ρ : Rho} (r : Rp Hf H σ ρ) {i : Nat} {ds : List D} (h : ρ[i]? = some (.ow ds)) :
    ∃ p Hf', σ[i]? = some (some (.ref p)) ∧ Nxt q σ ρ Hf H σ (ρ.set i (.fz (.list ds))) Hf' H ∧ Rep Hf' (.ref p) (.list ds) := by
  obtain ⟨p, vs, e, h1, h2, h3⟩ := slok_ow (r.sl i _ h)
  have e1 : Same Hf (upd Hf p (.lst vs)) := same_new h1
  have e2 : Same (upd Hf p (.lst vs)) H := fun b x q => by
    by_cases z : b = p
    · subst z
      rw [upd_same] at q
      rw [h2]
      exact q
    · rw [upd_ne z] at q
      exact r.sub _ _ q
  have dp : Rep (upd Hf p (.lst vs)) (.ref p) (.list ds) := .lst upd_same (repA_same e1 h3)
  refine ⟨p, _, e, r.chgO h e (.inl True.intro) e1 e2 r.tb (r.nt.upd NT.lst) (fun a o h _ _ => h) (fun _ h => h) (fun a z => ?_) (slok_fz.mpr dp), dp⟩
  by_cases q : a = p
  · exact .inr (.inr q)
  · exact .inl (by rw [upd_ne q]; exact z)
theorem fe_var (i : Nat) {x : Str} (hN : X.N[i]? = some x := by rfl) (hv : Vis X.env.scope x := by first | exact Or.inl rfl | exact Or.inr (Or.inl rfl) | exact Or.inr (Or.inr rfl)) (hd : (x == ("__debug__" : Str)) = false := by decide)
    (hcd : (x == ("__classdict__" : Str)) = false := by decide) : PE X (.Name x pos) (tE G (fVar i)) := by
  refine (pe_var hN hv hd hcd).imp fun σ H Q ⟨Hf, ρ, rp, af⟩ => ?_
  unfold fVar at af
  cases e : ρ[i]? with
  | none => rw [e] at af; exact af.elim
  | some s =>
    rw [e] at af
    cases s with
    | un => exact af.elim
    | raw v => exact af.elim
    | tr v => exact af.elim
    | lk v => exact af.elim
    | pa _ _ => exact af.elim
    | fz d =>
      obtain ⟨v, hv, q⟩ := slok_fz' (rp.sl i _ e)
      exact ⟨v, hv, af v Hf H (.refl rp) q⟩
    | ow ds =>
      obtain ⟨p, Hf', h1, n, q⟩ := rp.freeze e
      exact ⟨.ref p, h1, af _ _ _ n q⟩
def sc : D → Option V
  | .none => some .non
  | .bool b => some (.bl b)
  | .int i => some (.int i)
  | .str x => some (.str x)
  | _ => none
theorem rep_sc {H : Hp} {d : D} {v : V} (h : sc d = some v) : Rep H v d := by
  cases d <;> simp only [sc, Option.some.injEq, reduceCtorEq] at h <;> subst h <;> constructor
theorem fe_c {d : D} {v : V} (h : PE X e (tC v)) (hs : sc d = some v) : PE X e (tE G (ret d)) :=
  h.imp fun σ H Q ⟨Hf, ρ, rp, af⟩ => fin rp af (rep_sc hs)
theorem fe_int {i : Int} {j : Nat} : PE X (.Constant (.int i) j pos) (tE G (ret (.int i))) := fe_c pe_int rfl
theorem fe_str {x : Str} {j : Nat} : PE X (.Constant (.str x) j pos) (tE G (ret (.str x))) := fe_c pe_str rfl
theorem fe_bool {x : Bool} {j : Nat} : PE X (.Constant (.bool x) j pos) (tE G (ret (.bool x))) := fe_c pe_bl rfl
theorem fe_none {j : Nat} : PE X (.Constant .none j pos) (tE G (ret .none)) := fe_c pe_non rfl
theorem fe_globI {x : Str} {i : Int} {t : Tok} (hg : Gl X x) (hm : X.mg x = some (.int i t)) (hd : (x == ("__debug__" : Str)) = false := by decide) : PE X (.Name x pos) (tE G (ret (.int i))) := fe_c (pe_glob (v := .int i) hg hm ⟨_, rfl⟩ hd) rfl
theorem fe_globS {x : Str} {i : Str} {t : Tok} (hg : Gl X x) (hm : X.mg x = some (.str i t)) (hd : (x == ("__debug__" : Str)) = false := by decide) : PE X (.Name x pos) (tE G (ret (.str i))) := fe_c (pe_glob (v := .str i) hg hm ⟨_, rfl⟩ hd) rfl
@[simp] def lkD : Tr → Option D
  | .ow ds => some (.list ds)
  | .fz d => some d
  | _ => none
abbrev Pth := Nat × List Nat
@[simp] def trAt (p : Pth) (ρ : Rho) : Option Tr := match ρ[p.1]? with
  | some (.tr t) => t.at p.2
  | some (.lk t) => t.at p.2
  | _ => none
@[simp] def look (i : Nat) (ρ : Rho) : Option D := match ρ[i]? with
  | some (.fz d) => some d
  | some (.ow ds) => some (.list ds)
  | some (.lk t) => lkD t
  | some (.pa k qs) => (trAt (k, qs) ρ).bind lkD
  | _ => none
def AtV (H : Hp) (σ : St) (ρ : Rho) (p : Pth) (v : V) (s : Tr) : Prop := ∃ u t, σ[p.1]? = some (some u) ∧ isTr ρ p.1 t ∧ At H u t p.2 v s
theorem trAt_is {p : Pth} {ρ : Rho} {s : Tr} (h : trAt p ρ = some s) : ∃ t, isTr ρ p.1 t ∧ t.at p.2 = some s := by
  unfold trAt at h
  split at h
  · rename_i t e; exact ⟨t, .inl e, h⟩
  · rename_i t e; exact ⟨t, .inr e, h⟩
  · cases h
theorem Rp.tree {Hf H : Hp} {σ : St} {ρ : Rho} (r : Rp Hf H σ ρ) {i : Nat} {t : Tr} (h : isTr ρ i t) : ∃ v F, σ[i]? = some (some v) ∧ TR Hf H v t F := by
  rcases h with e | e
  · obtain ⟨v, F, e1, r1, _⟩ := slok_tr' (r.sl i _ e); exact ⟨v, F, e1, r1⟩
  · obtain ⟨v, F, e1, r1⟩ := slok_lk' (r.sl i _ e); exact ⟨v, F, e1, r1⟩
theorem AtV.trAt {H : Hp} {σ : St} {ρ : Rho} {p : Pth} {v : V} {s : Tr} (h : AtV H σ ρ p v s) : trAt p ρ = some s := by
  obtain ⟨u, t, e1, e2, a⟩ := h
  unfold Fx.trAt
  rcases e2 with e | e <;> (rw [e]; exact a.at)
theorem AtV.tr {Hf H : Hp} {σ : St} {ρ : Rho} (r : Rp Hf H σ ρ) {p : Pth} {v : V} {s : Tr} (h : AtV H σ ρ p v s) : ∃ M, TR Hf H v s M := by
  obtain ⟨u, t, e1, e2, a⟩ := h
  obtain ⟨u', F, e3, r1⟩ := r.tree e2
  rw [e1] at e3; cases e3
  obtain ⟨M, z, _⟩ := r1.atv a
  exact ⟨M, z⟩
theorem AtV.inj {H : Hp} {σ : St} {ρ : Rho} {p : Pth} {v w : V} {s s' : Tr} (h : AtV H σ ρ p v s) (h' : AtV H σ ρ p w s') : v = w ∧ s = s' := by
  have es : s = s' := by
    have a := h.trAt
    rw [h'.trAt] at a
    exact (Option.some.inj a).symm
  subst es
  obtain ⟨u, t, e1, e2, a⟩ := h
  obtain ⟨u', t', e1', e2', a'⟩ := h'
  rw [e1] at e1'; cases e1'
  have et : t = t' := by
    rcases e2 with e | e <;> rcases e2' with e' | e' <;> (rw [e] at e'; cases e'; try rfl)
  subst et
  exact ⟨(a.inj a').1, rfl⟩
theorem AtV.keep {Hf H Hf' H' : Hp} {σ σ' : St} {ρ ρ' : Rho} (r : Rp Hf H σ ρ) (n : Nxt true σ ρ Hf H σ' ρ' Hf' H') {p : Pth} {v : V} {s : Tr} (h : AtV H σ ρ p v s) : AtV H' σ' ρ' p v s := by
  obtain ⟨u, t, e1, e2, a⟩ := h
  obtain ⟨q1, q2⟩ := n.qt rfl
  rcases e2 with e | e
  · obtain ⟨g1, g2, g3⟩ := q1 _ t e
    refine ⟨u, t, g2.trans e1, .inl g1, r.at_mono (.inl e) e1 g3 (fun b z => ?_) a⟩
    obtain ⟨o, ho, to⟩ := r.lka z
    rw [ho]; exact n.keep b o ho to (r.lk b z)
  · obtain ⟨g1, g2⟩ := q2 _ (.inl ⟨t, e⟩)
    refine ⟨u, t, g2.trans e1, .inr (g1.trans e), r.at_mono (.inr e) e1 (fun b z => ?_) (fun b z => ?_) a⟩
    · obtain ⟨s, v, g3, _, o⟩ := z
      rw [e] at g3; cases g3
      exact o.elim
    · obtain ⟨o, ho, to⟩ := r.lka z
      rw [ho]; exact n.keep b o ho to (r.lk b z)
def R1 (Hf H : Hp) (v : V) (d : D) : Prop := Rep Hf v d ∨ ∃ p vs ds, v = .ref p ∧ d = .list ds ∧ H p = some (.lst vs) ∧ RepA Hf vs ds
section
variable {Hf H : Hp} {v : V} {d : D} {ds : List D} {σ : St} {ρ : Rho}
theorem R1.lst (sm : Same Hf H) (h : R1 Hf H v (.list ds)) : ∃ p vs, v = .ref p ∧ H p = some (.lst vs) ∧ RepA Hf vs ds := by
  rcases h with h | ⟨p, vs, es, e1, e2, h1, h2⟩
  · cases h with
    | lst h1 h2 => exact ⟨_, _, rfl, sm _ _ h1, h2⟩
  · cases e2
    exact ⟨p, vs, e1, h1, h2⟩
theorem R1.rep (h : R1 Hf H v d) (hn : ∀ ds, d ≠ .list ds) : Rep Hf v d := h.elim id fun ⟨_, _, ds, _, e, _⟩ => absurd e (hn ds)
theorem R1.tup (sm : Same Hf H) (h : R1 Hf H v (.tuple ds)) : ∃ p vs, v = .ref p ∧ H p = some (.tup vs) ∧ RepA Hf vs ds := by
  have q := h.rep fun _ z => nomatch z
  cases q with
  | tup h1 h2 => exact ⟨_, _, rfl, sm _ _ h1, h2⟩
theorem R1.int {i : Int} (h : R1 Hf H v (.int i)) : v = .int i := by
  have q := h.rep fun _ z => nomatch z
  cases q
  rfl
theorem R1.str {i : Str} (h : R1 Hf H v (.str i)) : v = .str i := by
  have q := h.rep fun _ z => nomatch z
  cases q
  rfl
theorem R1.bool {i : Bool} (h : R1 Hf H v (.bool i)) : v = .bl i := by
  have q := h.rep fun _ z => nomatch z
  cases q
  rfl
theorem R1.non (h : R1 Hf H v .none) : v = .non := by
  have q := h.rep fun _ z => nomatch z
  cases q
  rfl
theorem R1.full (sm : Same Hf H) (h : R1 Hf H v d) : Rep H v d := by
  rcases h with h | ⟨p, vs, ds, rfl, rfl, h1, h2⟩
  · exact rep_same sm h
  · exact .lst h1 (repA_same sm h2)
theorem lkD_R1 {M : List Addr} {s : Tr} (h : TR Hf H v s M) (e : lkD s = some d) : R1 Hf H v d := by
  cases h with
  | fz r => cases e; exact .inl r
  | ow h1 h2 => cases e; exact .inr ⟨_, _, _, rfl, rfl, h1, h2⟩
  | dk _ _ _ => cases e
  | dt _ _ _ => cases e
  | nd _ _ => cases e
theorem look_R1 {i : Nat} (rp : Rp Hf H σ ρ) (h : look i ρ = some d) : ∃ v, σ[i]? = some (some v) ∧ R1 Hf H v d := by
  unfold look at h
  cases e : ρ[i]? with
  | none => rw [e] at h; cases h
  | some s =>
    rw [e] at h
    cases s with
    | un => cases h
    | raw v => cases h
    | tr t => cases h
    | fz d' =>
      cases h
      obtain ⟨v, h1, h2⟩ := slok_fz' (rp.sl i _ e)
      exact ⟨v, h1, .inl h2⟩
    | ow ds =>
      cases h
      obtain ⟨p, vs, h1, h2, h3, h4⟩ := slok_ow (rp.sl i _ e)
      exact ⟨_, h1, .inr ⟨p, vs, ds, rfl, rfl, h3, h4⟩⟩
    | lk t =>
      obtain ⟨v, F, h1, h2⟩ := slok_lk' (rp.sl i _ e)
      exact ⟨v, h1, lkD_R1 h2 h⟩
    | pa k qs =>
      dsimp only at h
      cases e1 : trAt (k, qs) ρ with
      | none => rw [e1] at h; cases h
      | some s =>
        rw [e1] at h
        obtain ⟨t, h1, h2⟩ := trAt_is e1
        obtain ⟨v, w, s', g1, g2, g3⟩ := rp.al i k qs t e h1
        have av : AtV H σ ρ (k, qs) w s' := ⟨v, t, g1, h1, g3⟩
        have es : s' = s := by
          have a := av.trAt
          rw [e1] at a
          exact (Option.some.inj a).symm
        subst es
        obtain ⟨M, z⟩ := av.tr rp
        exact ⟨w, g2, lkD_R1 z h⟩
end
def AfP (G : Gx) (σ : St) (ρ : Rho) (Hf H : Hp) (Q : VK) : Res Pth → Prop
  | .ok (p, ρ') => ∀ v s Hf' H', Nxt G.q σ ρ Hf H σ ρ' Hf' H' → AtV H' σ ρ' p v s → Q v H'
  | .exc c ρ' => ∀ Hf' H', Nxt G.q σ ρ Hf H σ ρ' Hf' H' → G.W (.ref (G.cA c)) none σ H'
  | .bad => False
def tPl (G : Gx) (f : M Pth) : TE := fun σ H Q => ∃ Hf ρ, Rp Hf H σ ρ ∧ AfP G σ ρ Hf H Q (f ρ)
theorem tPl.mono {f : M Pth} {σ : St} {H : Hp} {Q Q' : VK} (h : ∀ x H, Q x H → Q' x H) (t : tPl G f σ H Q) : tPl G f σ H Q' := by
  obtain ⟨Hf, ρ, rp, q⟩ := t
  refine ⟨Hf, ρ, rp, ?_⟩
  cases e : f ρ with
  | ok x => obtain ⟨ds, ρ'⟩ := x; rw [e] at q; exact fun v s Hf' H' n a => h _ _ (q v s Hf' H' n a)
  | exc c ρ' => rw [e] at q; exact q
  | bad => rw [e] at q; exact q
inductive Opd where
  | e (f : M D)
  | v (i : Nat)
  | p (f : M Pth)
@[simp] def lookP (p : Pth) : M D := fun ρ => match (trAt p ρ).bind lkD with
  | some d => .ok (d, ρ)
  | none => .bad
@[simp] def Opd.go : Opd → M D
  | .e f => f
  | .v i => fun ρ => match look i ρ with
    | some d => .ok (d, ρ)
    | none => .bad
  | .p f => fun ρ => bnd f lookP ρ
@[simp] def Opd.at : Opd → D → Rho → Option D
  | .e _, d, _ => some d
  | .v i, _, ρ => look i ρ
  | .p _, d, _ => some d
def Opd.t (G : Gx) : Opd → TE
  | .e f => tE G f
  | .v i => tVar i
  | .p f => tPl G f
def Opd.r : Opd → St → Rho → Hp → Hp → V → D → Prop
  | .e _, _, _, Hf, _, x, d => Rep Hf x d
  | .v i, σ, _, _, _, x, _ => σ[i]? = some (some x)
  | .p _, σ, ρ, _, H, x, d => ∃ p s, AtV H σ ρ p x s ∧ lkD s = some d
def Opd.qok (G : Gx) : Opd → Prop
  | .p _ => G.q = true
  | _ => True
section
variable {α β : Type} {R : Hp → β → α → Prop} {σ : St} {ρ ρ1 ρ2 : Rho} {Hf H Hf1 H1 Hf2 H2 : Hp} {Q : β → Hp → Prop} {A B : Opd}
theorem Opd.keep (hq : A.qok G) (rp : Rp Hf1 H1 σ ρ1) (n : Nxt G.q σ ρ1 Hf1 H1 σ ρ2 Hf2 H2) {v : V} {d : D} (h : A.r σ ρ1 Hf1 H1 v d) : A.r σ ρ2 Hf2 H2 v d := by
  cases A with
  | e f => exact rep_same n.sub h
  | v i => exact h
  | p f =>
    obtain ⟨p, s, a, e⟩ := h
    have hq' : G.q = true := hq
    rw [hq'] at n
    exact ⟨p, s, a.keep rp n, e⟩
theorem Opd.end (rp : Rp Hf H σ ρ) {v : V} {d x : D} (h : A.r σ ρ Hf H v d) (e : A.at d ρ = some x) : R1 Hf H v x := by
  cases A with
  | e f => cases e; exact .inl h
  | v i =>
    obtain ⟨w, h1, h2⟩ := look_R1 rp e
    have h' : σ[i]? = some (some v) := h
    rw [h1] at h'
    cases h'
    exact h2
  | p f =>
    cases e
    obtain ⟨p, s, a, e⟩ := h
    obtain ⟨M, z⟩ := a.tr rp
    exact lkD_R1 z e
theorem stepO {k : D → M α} (rp : Rp Hf H σ ρ) (af : AfG G R σ ρ Hf H Q (bnd A.go k ρ)) :
    A.t G σ H fun y H1 => ∃ b Hf1 ρ1, Nxt G.q σ ρ Hf H σ ρ1 Hf1 H1 ∧ A.r σ ρ1 Hf1 H1 y b ∧ AfG G R σ ρ1 Hf1 H1 Q (k b ρ1) := by
  cases A with
  | e f => exact step rp af
  | v i =>
    unfold bnd Opd.go at af
    dsimp only at af
    cases e : look i ρ with
    | none => rw [e] at af; exact af.elim
    | some d =>
      rw [e] at af
      obtain ⟨v, h1, _⟩ := look_R1 rp e
      exact ⟨v, h1, d, Hf, ρ, .refl rp, h1, af⟩
  | p f =>
    refine ⟨Hf, ρ, rp, ?_⟩
    unfold bnd Opd.go bnd at af
    dsimp only at af
    cases e : f ρ with
    | ok x =>
      obtain ⟨p, ρ1⟩ := x
      rw [e] at af
      dsimp only at af
      intro v s Hf1 H1 n a
      unfold lookP at af
      cases e2 : (trAt p ρ1).bind lkD with
      | none => rw [e2] at af; exact af.elim
      | some d =>
        rw [e2] at af
        rw [a.trAt] at e2
        exact ⟨d, Hf1, ρ1, n, ⟨p, s, a, e2⟩, af.later n⟩
    | exc c ρ1 => rw [e] at af; exact af
    | bad => rw [e] at af; exact af
theorem Opd.run {Q Q' : VK} (t : A.t G σ H Q) (h : ∀ x H, Q x H → Q' x H) : A.t G σ H Q' := by
  cases A with
  | e f => exact tG.mono h t
  | v i => exact ⟨t.choose, t.choose_spec.1, h _ _ t.choose_spec.2⟩
  | p f => exact tPl.mono h t
end
@[simp] def fin2 {α : Type} (A B : Opd) (a b : D) (k : D → D → Option α) : M α := fun ρ => match A.at a ρ with
  | some x => (match B.at b ρ with
    | some y => opt (k x y) ρ
    | none => .bad)
  | none => .bad
@[simp] def fOp (o : D → D → Option D) (A B : Opd) : M D := fun ρ => (bnd A.go fun a => bnd B.go fun b => fin2 A B a b o) ρ
def RdO (r : R2) (o : D → D → Option D) : Prop := ∀ (Hf H : Hp) (x y : V) (a b d : D), Same Hf H → R1 Hf H x a → R1 Hf H y b → o a b = some d → ∃ v, Rep Hf v d ∧ ∀ Q : VK, Q v H → r x y H Q
theorem fin2_some {α β : Type} {R : Hp → β → α → Prop} {σ : St} {ρ : Rho} {Hf H : Hp} {Q : β → Hp → Prop} {A B : Opd} {a b : D} {k : D → D → Option α} (af : AfG G R σ ρ Hf H Q (fin2 A B a b k ρ)) : ∃ x y, A.at a ρ = some x ∧ B.at b ρ = some y ∧ AfG G R σ ρ Hf H Q (opt (k x y) ρ) := by
  unfold fin2 at af
  cases e1 : A.at a ρ with
  | none => rw [e1] at af; exact af.elim
  | some x =>
    rw [e1] at af
    cases e2 : B.at b ρ with
    | none => simp only [e2] at af; exact False.elim af
    | some y =>
      simp only [e2] at af
      exact ⟨x, y, rfl, rfl, af⟩
variable {A B : Opd}
theorem rd_op {r : R2} {o : D → D → Option D} (hqa : A.qok G) (hr : RdO r o) (σ : St) (H : Hp) (Q : VK) (h : tE G (fOp o A B) σ H Q) : tOp r (A.t G) (B.t G) σ H Q := by
  obtain ⟨Hf, ρ, rp, af⟩ := h
  refine Opd.run (stepO rp af) fun x H1 ⟨a, Hf1, ρ1, n1, ra, af1⟩ => Opd.run (stepO n1.rp af1) fun y H2 ⟨b, Hf2, ρ2, n2, rb, af2⟩ => ?_
  obtain ⟨a', b', ea, eb, af3⟩ := fin2_some af2
  obtain ⟨d, e, k⟩ := finO n2.rp af3
  obtain ⟨v, dv, hq⟩ := hr Hf2 H2 x y a' b' d n2.rp.sub (Opd.end n2.rp (Opd.keep hqa n1.rp n2 ra) ea) (Opd.end n2.rp rb eb) e
  exact hq Q (k v dv)
theorem fe_op {r : R2} {o : D → D → Option D} {op : Operator} (ho : OpR X (binaryOp op) r) (hr : RdO r o) (ha : PE X a (A.t G)) (hb : PE X b (B.t G)) (hqa : A.qok G := by first | exact True.intro | rfl) : PE X (.BinOp a op b pos) (tE G (fOp o A B)) :=
  (pe_op ho ha hb).imp (rd_op hqa hr)
theorem fe_cmp {r : R2} {o : D → D → Option D} {op : CmpOp} (ho : OpR X (compareOp op) r) (hr : RdO r o) (ha : PE X a (A.t G)) (hb : PE X b (B.t G)) (hm : behindInMarks op b = false) (hqa : A.qok G := by first | exact True.intro | rfl) : PE X (.Compare a [op] [b] pos) (tE G (fOp o A B)) :=
  (pe_cmpR ho ha hb hm).imp (rd_op hqa hr)
@[simp] def oI (C : Int → Int → Bool) (g : Int → Int → D) : D → D → Option D
  | .int i, .int j => if C i j then some (g i j) else none
  | _, _ => none
@[simp] def oI0 (g : Int → Int → D) : D → D → Option D
  | .int i, .int j => some (g i j)
  | _, _ => none
theorem rd_I0 {g : Int → Int → D} {gv : Int → Int → V} (h : ∀ i j, sc (g i j) = some (gv i j)) : RdO (rI0 gv) (oI0 g) := by
  intro Hf H x y a b d _ ha hb e
  cases a <;> cases b <;> simp only [oI0, reduceCtorEq, Option.some.injEq] at e
  subst e
  exact ⟨_, rep_sc (h _ _), fun Q q => ⟨_, _, ha.int, hb.int, q⟩⟩
theorem rd_I {C : Int → Int → Bool} {C' : Int → Int → Prop} {g : Int → Int → D} {gv : Int → Int → V} (hC : ∀ i j, C i j = true → C' i j) (h : ∀ i j, sc (g i j) = some (gv i j)) : RdO (rI C' gv) (oI C g) := by
  intro Hf H x y a b d _ ha hb e
  cases a <;> cases b <;> simp only [oI, reduceCtorEq] at e
  split at e
  · rename_i hc
    cases e
    exact ⟨_, rep_sc (h _ _), fun Q q => ⟨_, _, ha.int, hb.int, hC _ _ hc, q⟩⟩
  · cases e
abbrev oAdd := oI0 fun i j => .int (i + j)
def cMul (i j : Int) : Bool := decide (i.natAbs < 2 ^ 64 ∨ j.natAbs < 2 ^ 64)
abbrev oMul := oI cMul fun i j => .int (i * j)
def cDiv (i j : Int) : Bool := decide (0 < j ∧ j.natAbs.log2 < 9000)
abbrev oDiv := oI cDiv fun i j => .int (i / j)
def cMod (i j : Int) : Bool := decide (0 < j)
abbrev oMod := oI cMod fun i j => .int (i % j)
def cPow (i j : Int) : Bool := decide (0 ≤ j ∧ j ≤ 1000000 ∧ i.natAbs < 2 ^ 64)
abbrev oPow := oI cPow fun i j => .int (i ^ j.toNat)
abbrev oLt := oI0 fun i j => .bool (decide (i < j))
abbrev oGt := oI0 fun i j => .bool (decide (j < i))
abbrev oGe := oI0 fun i j => .bool (decide (j ≤ i))
theorem rd_add : RdO (rI0 fun i j => .int (i + j)) oAdd := rd_I0 fun _ _ => rfl
theorem rd_lt : RdO (rI0 fun i j => .bl (decide (i < j))) oLt := rd_I0 fun _ _ => rfl
theorem rd_gt : RdO (rI0 fun i j => .bl (decide (j < i))) oGt := rd_I0 fun _ _ => rfl
theorem rd_ge : RdO (rI0 fun i j => .bl (decide (j ≤ i))) oGe := rd_I0 fun _ _ => rfl
theorem fe_add (ha : PE X a (A.t G)) (hb : PE X b (B.t G)) (hqa : A.qok G := by first | exact True.intro | rfl) : PE X (.BinOp a .Add b pos) (tE G (fOp oAdd A B)) := fe_op op_add rd_add ha hb hqa
theorem fe_mul (ha : PE X a (A.t G)) (hb : PE X b (B.t G)) (hqa : A.qok G := by first | exact True.intro | rfl) : PE X (.BinOp a .Mult b pos) (tE G (fOp oMul A B)) := fe_op op_mul (rd_I (fun _ _ h => by unfold cMul at h; have q := of_decide_eq_true h; exact q.imp (fun z => ⟨by omega, by omega⟩) (fun z => ⟨by omega, by omega⟩)) fun _ _ => rfl) ha hb hqa
theorem fe_div (ha : PE X a (A.t G)) (hb : PE X b (B.t G)) (hqa : A.qok G := by first | exact True.intro | rfl) : PE X (.BinOp a .FloorDiv b pos) (tE G (fOp oDiv A B)) := fe_op op_fdivW (rd_I (fun _ _ h => by unfold cDiv at h; have q := of_decide_eq_true h; exact q) fun _ _ => rfl) ha hb hqa
theorem fe_mod (ha : PE X a (A.t G)) (hb : PE X b (B.t G)) (hqa : A.qok G := by first | exact True.intro | rfl) : PE X (.BinOp a .Mod b pos) (tE G (fOp oMod A B)) := fe_op op_mod (rd_I (fun _ _ h => of_decide_eq_true h) fun _ _ => rfl) ha hb hqa
theorem fe_pow (ha : PE X a (A.t G)) (hb : PE X b (B.t G)) (hqa : A.qok G := by first | exact True.intro | rfl) : PE X (.BinOp a .Pow b pos) (tE G (fOp oPow A B)) := fe_op op_pow (rd_I (fun _ _ h => by unfold cPow at h; have q := of_decide_eq_true h; exact q) fun _ _ => rfl) ha hb hqa
def oEq : D → D → Option D
  | .int i, .int j => some (.bool (decide (i = j)))
  | .str i, .str j => some (.bool (decide (i = j)))
  | .bool i, .bool j => some (.bool (decide (i = j)))
  | _, _ => none
def oNe : D → D → Option D
  | .int i, .int j => some (.bool (!decide (i = j)))
  | .str i, .str j => some (.bool (!decide (i = j)))
  | .bool i, .bool j => some (.bool (!decide (i = j)))
  | _, _ => none
theorem dec_congr {p q : Prop} [Decidable p] [Decidable q] (h : p ↔ q) : decide p = decide q := by
  by_cases hp : p
  · rw [decide_eq_true hp, decide_eq_true (h.mp hp)]
  · rw [decide_eq_false hp, decide_eq_false fun z => hp (h.mpr z)]
theorem rd_eq : RdO rEq oEq := by
  intro Hf H x y a b d _ ha hb e
  cases a <;> cases b <;> simp only [oEq, reduceCtorEq, Option.some.injEq] at e <;> subst e
  · cases ha.bool; cases hb.bool; exact ⟨_, .bl _, fun Q q => ⟨rfl, by rw [dec_congr ⟨V.bl.inj, congrArg V.bl⟩]; exact q⟩⟩
  · cases ha.int; cases hb.int; exact ⟨_, .bl _, fun Q q => ⟨rfl, by rw [dec_congr ⟨V.int.inj, congrArg V.int⟩]; exact q⟩⟩
  · cases ha.str; cases hb.str; exact ⟨_, .bl _, fun Q q => ⟨rfl, by rw [dec_congr ⟨V.str.inj, congrArg V.str⟩]; exact q⟩⟩
theorem rd_ne : RdO rNe oNe := by
  intro Hf H x y a b d _ ha hb e
  cases a <;> cases b <;> simp only [oNe, reduceCtorEq, Option.some.injEq] at e <;> subst e
  · cases ha.bool; cases hb.bool; exact ⟨_, .bl _, fun Q q => ⟨rfl, by rw [dec_congr ⟨V.bl.inj, congrArg V.bl⟩]; exact q⟩⟩
  · cases ha.int; cases hb.int; exact ⟨_, .bl _, fun Q q => ⟨rfl, by rw [dec_congr ⟨V.int.inj, congrArg V.int⟩]; exact q⟩⟩
  · cases ha.str; cases hb.str; exact ⟨_, .bl _, fun Q q => ⟨rfl, by rw [dec_congr ⟨V.str.inj, congrArg V.str⟩]; exact q⟩⟩
end
end Fx
namespace Fx
open PySem L2
variable [Tabz]
section
variable {X : Cx} {G : Gx} {e a b : Expr} {es : List Expr} {f g : M D} {fs : M (List D)} {pos : Pos}
@[simp] def asB : D → Option Bool
  | .bool b => some b
  | _ => none
@[simp] def fB (f : M D) : M Bool := fun ρ => (bnd f fun d => opt (asB d)) ρ
theorem asB_eq {d : D} {c : Bool} (h : asB d = some c) : d = .bool c := by
  cases d <;> simp only [asB, reduceCtorEq, Option.some.injEq] at h
  rw [h]
theorem rep_bool {H : Hp} {v : V} {c : Bool} (h : Rep H v (.bool c)) : v = .bl c := by cases h; rfl
theorem rep_int {H : Hp} {v : V} {c : Int} (h : Rep H v (.int c)) : v = .int c := by cases h; rfl
theorem rd_B (σ : St) (H : Hp) (Q : Bool → Hp → Prop) (h : tT G (fB f) σ H Q) : tE G f σ H fun x H1 => ∃ c, x = .bl c ∧ Q c H1 := by
  obtain ⟨Hf, ρ, rp, af⟩ := h
  refine (step rp af).mono fun x H1 ⟨d, Hf1, ρ1, n1, ra, af1⟩ => ?_
  obtain ⟨c, e, k⟩ := finO n1.rp af1
  rw [asB_eq e] at ra
  exact ⟨c, rep_bool ra, k c rfl⟩
theorem ft_val (h : PE X e (tE G f)) (he : ∀ whole, isTrue e X.env whole = (do let v ← whole; standAt e.pos; holding [v] (truthy v)) := by intro _; rfl) : PT X e (tT G (fB f)) :=
  (pt_val h he).imp fun σ H Q h => rd_B σ H Q h
variable {A B : Opd}
theorem ft_cmp {op : CmpOp} {r : R2} {o : D → D → Option D} (ho : OpR X (compareOp op) r) (hr : RdO r o) (ha : PE X a (A.t G)) (hb : PE X b (B.t G)) (hm : behindInMarks op b = false) (hqa : A.qok G := by first | exact True.intro | rfl) : PT X (.Compare a [op] [b] pos) (tT G (fB (fOp o A B))) :=
  (pt_cmpR ho ha hb hm).imp fun σ H Q h => rd_op hqa (fun _ _ _ _ _ _ _ h1 h2 h3 h4 => hr _ _ _ _ _ _ _ h1 h2 h3 h4) σ H _ (rd_B σ H Q h)
@[simp] def tAndM (f g : M Bool) : M Bool := fun ρ => (bnd f fun c => if c = true then g else ret false) ρ
@[simp] def tOrM (f g : M Bool) : M Bool := fun ρ => (bnd f fun c => if c = true then ret true else g) ρ
@[simp] def tNotM (f : M Bool) : M Bool := fun ρ => (bnd f fun c => ret (!c)) ρ
variable {p q : M Bool} {rest : List Expr}
theorem fw_and1 (ha : PT X a (tT G p)) : PW X (.BoolOp .And [a] pos) (tT G p) := pw_and1 ha
theorem fw_or1 (ha : PT X a (tT G p)) : PW X (.BoolOp .Or [a] pos) (tT G p) := pw_or1 ha
theorem _root_.L2.PW.imp {t t' : TT} (h : PW X e t) (i : ∀ σ H Q, t' σ H Q → t σ H Q) : PW X e t' := ⟨fun w pins s σ H Q I q => h.run w pins s σ H Q I (i _ _ _ q)⟩
theorem fw_and (ha : PT X a (tT G p)) (hb : PW X (.BoolOp .And (b :: rest) pos) (tT G q)) : PW X (.BoolOp .And (a :: b :: rest) pos) (tT G (tAndM p q)) := by
  refine (pw_and ha hb).imp fun σ H Q ⟨Hf, ρ, rp, af⟩ => ?_
  refine (step rp af).mono fun x H1 ⟨d, Hf1, ρ1, n1, ra, af1⟩ => ?_
  subst ra
  cases x with
  | true => exact ⟨Hf1, ρ1, n1.rp, af1⟩
  | false => exact fin n1.rp af1 rfl
theorem fw_or (ha : PT X a (tT G p)) (hb : PW X (.BoolOp .Or (b :: rest) pos) (tT G q)) : PW X (.BoolOp .Or (a :: b :: rest) pos) (tT G (tOrM p q)) := by
  refine (pw_or ha hb).imp fun σ H Q ⟨Hf, ρ, rp, af⟩ => ?_
  refine (step rp af).mono fun x H1 ⟨d, Hf1, ρ1, n1, ra, af1⟩ => ?_
  subst ra
  cases x with
  | false => exact ⟨Hf1, ρ1, n1.rp, af1⟩
  | true => exact fin n1.rp af1 rfl
theorem ft_not (ha : PT X a (tT G p)) : PT X (.UnaryOp .Not a pos) (tT G (tNotM p)) := by
  refine (pt_not ha).imp fun σ H Q ⟨Hf, ρ, rp, af⟩ => ?_
  refine (step rp af).mono fun x H1 ⟨d, Hf1, ρ1, n1, ra, af1⟩ => ?_
  subst ra
  exact fin n1.rp af1 rfl
@[simp] def vAnd (f g : M D) : M D := fun ρ => (bnd f fun d => bnd (opt (asB d)) fun c => if c = true then g else ret (.bool false)) ρ
@[simp] def vOr (f g : M D) : M D := fun ρ => (bnd f fun d => bnd (opt (asB d)) fun c => if c = true then ret (.bool true) else g) ρ
@[simp] def vNot (f : M D) : M D := fun ρ => (bnd f fun d => bnd (opt (asB d)) fun c => ret (.bool (!c))) ρ
theorem optB {K : Bool → M D} {σ : St} {ρ : Rho} {Hf H : Hp} {Q : VK} {d : D} (af : AfG G Rep σ ρ Hf H Q (bnd (opt (asB d)) K ρ)) : ∃ c, d = .bool c ∧ AfG G Rep σ ρ Hf H Q (K c ρ) := by
  cases d <;> first | exact af.elim | exact ⟨_, rfl, af⟩
theorem fe_and (ha : PE X a (tE G f)) (hb : PE X (.BoolOp .And (b :: rest) pos) (tE G g)) : PE X (.BoolOp .And (a :: b :: rest) pos) (tE G (vAnd f g)) := by
  refine (pe_and ha hb).imp fun σ H Q ⟨Hf, ρ, rp, af⟩ => ?_
  refine (step rp af).mono fun x H1 ⟨d, Hf1, ρ1, n1, ra, af1⟩ => ?_
  obtain ⟨c, rfl, af2⟩ := optB af1
  refine ⟨c, rep_bool ra, ?_⟩
  cases c with
  | true => exact ⟨Hf1, ρ1, n1.rp, af2⟩
  | false => exact fin n1.rp af2 (.bl false)
theorem fe_one {op : BoolOp} (h : PE X a (tE G f)) : PE X (.BoolOp op [a] pos) (tE G f) := pe_one h
@[simp] def fIf (p : M Bool) (f g : M D) : M D := fun ρ => (bnd p fun c => if c = true then f else g) ρ
theorem fe_if {c : Expr} (hc : PT X c (tT G p)) (ha : PE X a (tE G f)) (hb : PE X b (tE G g)) : PE X (.IfExp c a b pos) (tE G (fIf p f g)) := by
  refine (pe_ifExp hc ha hb).imp fun σ H Q ⟨Hf, ρ, rp, af⟩ => ?_
  refine (step rp af).mono fun x H1 ⟨d, Hf1, ρ1, n1, ra, af1⟩ => ?_
  subst ra
  cases x with
  | true => exact ⟨Hf1, ρ1, n1.rp, af1⟩
  | false => exact ⟨Hf1, ρ1, n1.rp, af1⟩
@[simp] def fin1 {α : Type} (A : Opd) (a : D) (k : D → Option α) : M α := fun ρ => match A.at a ρ with
  | some x => opt (k x) ρ
  | none => .bad
theorem fin1_some {α β : Type} {R : Hp → β → α → Prop} {σ : St} {ρ : Rho} {Hf H : Hp} {Q : β → Hp → Prop} {a : D} {k : D → Option α} (af : AfG G R σ ρ Hf H Q (fin1 A a k ρ)) : ∃ x, A.at a ρ = some x ∧ AfG G R σ ρ Hf H Q (opt (k x) ρ) := by
  unfold fin1 at af
  cases e1 : A.at a ρ with
  | none => rw [e1] at af; exact af.elim
  | some x => rw [e1] at af; exact ⟨x, rfl, af⟩
@[simp] def fUn (o : D → Option D) (A : Opd) : M D := fun ρ => (bnd A.go fun a => fin1 A a o) ρ
def RdU (r : V → Hp → VK → Prop) (o : D → Option D) : Prop := ∀ (Hf H : Hp) (x : V) (a d : D), Same Hf H → R1 Hf H x a → o a = some d → ∃ v, Rep Hf v d ∧ ∀ Q : VK, Q v H → r x H Q
theorem rd_un {r : V → Hp → VK → Prop} {o : D → Option D} (hr : RdU r o) (σ : St) (H : Hp) (Q : VK) (h : tE G (fUn o A) σ H Q) : A.t G σ H fun x H1 => r x H1 Q := by
  obtain ⟨Hf, ρ, rp, af⟩ := h
  refine Opd.run (stepO rp af) fun x H1 ⟨a, Hf1, ρ1, n1, ra, af1⟩ => ?_
  obtain ⟨a', ea, af2⟩ := fin1_some af1
  obtain ⟨d, e, k⟩ := finO n1.rp af2
  obtain ⟨v, dv, hq⟩ := hr Hf1 H1 x a' d n1.rp.sub (Opd.end n1.rp ra ea) e
  exact hq Q (k v dv)
@[simp] def isN : D → Bool
  | .none => true
  | _ => false
@[simp] def oIsN (d : D) : Option D := some (.bool (isN d))
@[simp] def oNotN (d : D) : Option D := some (.bool (!isN d))
theorem r1_isN {Hf H : Hp} {x : V} {d : D} (h : R1 Hf H x d) : decide (x = .non) = isN d := by
  rcases h with h | ⟨p, vs, ds, rfl, rfl, _⟩
  · cases h <;> rfl
  · rfl
theorem rd_isN : RdU (fun x H Q => Q (.bl (decide (x = V.non))) H) oIsN := by
  intro Hf H x a d _ ha e
  cases e
  exact ⟨_, .bl _, fun Q q => by dsimp only; rw [r1_isN ha]; exact q⟩
theorem fe_isN {j : Nat} {p1 : Pos} (ha : PE X a (A.t G)) : PE X (.Compare a [.Is] [.Constant .none j p1] pos) (tE G (fUn oIsN A)) :=
  (pe_cmpR op_isN ha pe_non (nomark _)).imp fun σ H Q h => Opd.run (rd_un rd_isN σ H Q h) fun x H1 q => ⟨rfl, q⟩
theorem ft_isN {j : Nat} {p1 : Pos} (ha : PE X a (A.t G)) : PT X (.Compare a [.Is] [.Constant .none j p1] pos) (tT G (fB (fUn oIsN A))) :=
  (pt_cmpR op_isN ha pe_non (nomark _)).imp fun σ H Q h => Opd.run (rd_un rd_isN σ H _ (rd_B σ H Q h)) fun x H1 q => ⟨rfl, q⟩
@[simp] def oNeg : D → Option D
  | .int i => some (.int (-i))
  | _ => none
@[simp] def fNil : M (List D) := fun ρ => (ret []) ρ
@[simp] def fCons (f : M D) (fs : M (List D)) : M (List D) := fun ρ => (bnd f fun d => bnd fs fun ds => ret (d :: ds)) ρ
theorem fa_nil : PA X [] (tA G fNil) := pa_nil.imp fun σ H Q ⟨Hf, ρ, rp, af⟩ => fin rp af .nil
theorem fa_cons (ha : PE X e (tE G f)) (hr : PA X es (tA G fs)) (hs : starEach (e :: es) X.env = (false, eval e X.env) :: starEach es X.env := by rfl) : PA X (e :: es) (tA G (fCons f fs)) := by
  refine (pa_cons ha hr hs).imp fun σ H Q ⟨Hf, ρ, rp, af⟩ => ?_
  refine (step rp af).mono fun x H1 ⟨d, Hf1, ρ1, n1, ra, af1⟩ => (step n1.rp af1).mono fun y H2 ⟨ds, Hf2, ρ2, n2, rb, af2⟩ => ?_
  exact fin n2.rp af2 (.cons (rep_same n2.sub ra) rb)
theorem repA_len {H : Hp} {vs : List V} {ds : List D} (h : RepA H vs ds) : vs.length = ds.length := by
  induction ds generalizing vs with
  | nil => cases h; rfl
  | cons d ds ih => cases h with | cons _ h => simp [ih h]
def small (n : Nat) : Bool := decide (n ≤ 100000)
theorem small_le {n : Nat} (h : small n = true) : n ≤ sizeLine := Nat.le_trans (of_decide_eq_true h) (by decide)
theorem small_lt {n : Nat} (h : small n = true) : n < sizeLine := Nat.lt_of_le_of_lt (of_decide_eq_true h) (by decide)
def mkT (ds : List D) : Option D := if small ds.length then some (.tuple ds) else none
@[simp] def fTup (fs : M (List D)) : M D := fun ρ => (bnd fs fun ds => opt (mkT ds)) ρ
theorem AfG.new {α β : Type} {R : Hp → β → α → Prop} {σ : St} {ρ : Rho} {Hf H : Hp} {Q : β → Hp → Prop} {a : α} (rp : Rp Hf H σ ρ) (af : AfG G R σ ρ Hf H Q (ret a ρ)) {p : Addr} {o : HO} (hp : H p = none) {x : β} (r : R (upd Hf p o) x a) (ho : NT o := by first | exact NT.lst | exact NT.tup) : Q x (upd H p o) := af x _ _ (rp.new hp ho) r
theorem fe_tup {k : Nat} (h : PA X es (tA G fs)) : PE X (.Tuple es k pos) (tE G (fTup fs)) := by
  refine (pe_tup h).imp fun σ H Q ⟨Hf, ρ, rp, af⟩ => ?_
  refine (step rp af).mono fun x H1 ⟨ds, Hf1, ρ1, n1, ra, af1⟩ => ?_
  unfold mkT at af1
  split at af1
  · rename_i hs
    refine ⟨by rw [repA_len ra]; exact small_le hs, fun p hp => ?_⟩
    exact AfG.new (R := Rep) (a := PyData.tuple ds) n1.rp af1 hp (Rep.tup upd_same (repA_same (same_new (n1.rp.sub.free hp)) ra))
  · exact af1.elim
def AfL (G : Gx) (σ : St) (ρ : Rho) (Hf H : Hp) (Q : VK) : Res (List D) → Prop
  | .ok (ds, ρ') => ∀ p vs Hf' H', Nxt G.q σ ρ Hf H σ ρ' Hf' H' → Fre H σ ρ p → Hf' p = none → ¬ OwnA H' σ ρ' p → H' p = some (.lst vs) → RepA Hf' vs ds → Q (.ref p) H'
  | .exc c ρ' => ∀ Hf' H', Nxt G.q σ ρ Hf H σ ρ' Hf' H' → G.W (.ref (G.cA c)) none σ H'
  | .bad => False
def tL (G : Gx) (f : M (List D)) : TE := fun σ H Q => ∃ Hf ρ, Rp Hf H σ ρ ∧ AfL G σ ρ Hf H Q (f ρ)
theorem AfL.later {σ : St} {ρ ρ1 : Rho} {Hf H Hf1 H1 : Hp} {Q : VK} (n : Nxt G.q σ ρ Hf H σ ρ1 Hf1 H1) : ∀ {o : Res (List D)}, AfL G σ ρ Hf H Q o → AfL G σ ρ1 Hf1 H1 Q o
  | .ok (a, ρ'), q => fun p vs Hf' H' n' hp h1 h2 h3 r => q p vs Hf' H' (n.trans n') (hp.back n) h1 h2 h3 r
  | .exc c ρ', q => fun Hf' H' n' => q Hf' H' (n.trans n')
  | .bad, q => q
theorem stepL {α γ : Type} {R1 : Hp → α → γ → Prop} {σ : St} {ρ : Rho} {Hf H : Hp} {Q : VK} {g : M γ} {k : γ → M (List D)} (rp : Rp Hf H σ ρ) (af : AfL G σ ρ Hf H Q (bnd g k ρ)) :
    tG G R1 g σ H fun y H1 => ∃ b Hf1 ρ1, Nxt G.q σ ρ Hf H σ ρ1 Hf1 H1 ∧ R1 Hf1 y b ∧ AfL G σ ρ1 Hf1 H1 Q (k b ρ1) := by
  refine ⟨Hf, ρ, rp, ?_⟩
  unfold bnd at af
  cases e : g ρ with
  | ok p =>
    obtain ⟨b, ρ1⟩ := p
    rw [e] at af
    exact fun x Hf1 H1 n r => ⟨b, Hf1, ρ1, n, r, af.later n⟩
  | exc c ρ1 => rw [e] at af; exact af
  | bad => rw [e] at af; exact af
theorem Rp.notOwn {σ : St} {ρ : Rho} {Hf H : Hp} (rp : Rp Hf H σ ρ) {p : Addr} (hp : H p = none) : ¬ OwnA H σ ρ p := fun z => by
  obtain ⟨_, vs, h, _⟩ := rp.own z
  rw [h] at hp
  cases hp
theorem Rp.notLk {σ : St} {ρ : Rho} {Hf H : Hp} (rp : Rp Hf H σ ρ) {p : Addr} (hp : H p = none) : ¬ LkA H σ ρ p := fun z => by
  obtain ⟨vs, h, _⟩ := rp.lka z
  rw [h] at hp
  cases hp
theorem Rp.notOwnU {σ : St} {ρ : Rho} {Hf H : Hp} (rp : Rp Hf H σ ρ) {p : Addr} {o : HO} (hp : H p = none) : ¬ OwnA (upd H p o) σ ρ p := fun ⟨i, z⟩ => rp.notOwn hp ⟨i, (rp.ownI_iff (fun b y => upd_ne (fun (e : b = p) => rp.notOwn hp (by rw [← e]; exact ⟨i, y⟩))) p).mp z⟩
theorem finL {σ : St} {ρ : Rho} {Hf H : Hp} {Q : VK} {ds : List D} (rp : Rp Hf H σ ρ) (af : AfL G σ ρ Hf H Q (ret ds ρ)) {p : Addr} {vs : List V} (hp : H p = none) (r : RepA Hf vs ds) : Q (.ref p) (upd H p (.lst vs)) :=
  af p vs _ _ (rp.newO hp) (.inl hp) (rp.sub.free hp) (rp.notOwnU hp) upd_same r
@[simp] def fLst (f : M (List D)) : M D := fun ρ => (bnd f fun ds => ret (.list ds)) ρ
theorem Nxt.take {q : Bool} {σ : St} {ρ ρ0 : Rho} {Hf H Hf0 H0 : Hp} (n : Nxt q σ ρ0 Hf0 H0 σ ρ Hf H) {p : Addr} {vs : List V} {ds : List D} (h0 : Fre H0 σ ρ0 p) (hp : Hf p = none) (no : ¬ OwnA H σ ρ p) (h : H p = some (.lst vs)) (r : RepA Hf vs ds) : Nxt q σ ρ0 Hf0 H0 σ ρ (upd Hf p (.lst vs)) H ∧ Rep (upd Hf p (.lst vs)) (.ref p) (.list ds) := by
  have e1 : Same Hf (upd Hf p (.lst vs)) := same_new hp
  have rp := n.rp
  refine ⟨⟨n.sub.trans e1, n.keep, n.os, n.ls, n.dom, fun a z => (n.fr a z).elim (fun q => (by
    by_cases w : a = p
    · exact .inr (w ▸ h0)
    · exact .inl (by rw [upd_ne w]; exact q))) .inr, n.qt, rp.grow e1 (fun b x q => ?_) rp.tb (rp.nt.upd NT.lst) (fun a z => ⟨?_, rfl⟩) fun _ _ => rfl⟩, .lst upd_same (repA_same e1 r)⟩
  · by_cases z : b = p
    · subst z
      rw [upd_same] at q
      rw [h]
      exact q
    · rw [upd_ne z] at q
      exact rp.sub _ _ q
  · have ne : a ≠ p := fun q => no (q ▸ z)
    rw [upd_ne ne]
    exact (rp.own z).1
theorem fe_ofL {f : M (List D)} (h : PE X e (tL G f)) : PE X e (tE G (fLst f)) := by
  refine h.imp fun σ H Q ⟨Hf, ρ, rp, af⟩ => ⟨Hf, ρ, rp, ?_⟩
  unfold fLst bnd at af
  cases e : f ρ with
  | ok x =>
    obtain ⟨ds, ρ1⟩ := x
    rw [e] at af
    intro p vs Hf' H' n hp h1 h2 h3 r
    obtain ⟨n2, r2⟩ := n.take hp h1 h2 h3 r
    exact af _ _ _ n2 r2
  | exc c ρ1 => rw [e] at af; exact af
  | bad => rw [e] at af; exact af
def mkL (ds : List D) : Option (List D) := if small ds.length then some ds else none
@[simp] def fLs (fs : M (List D)) : M (List D) := fun ρ => (bnd fs fun ds => opt (mkL ds)) ρ
theorem fl_lst (h : PA X es (tA G fs)) : PE X (.List es pos) (tL G (fLs fs)) := by
  refine (pe_lst h).imp fun σ H Q ⟨Hf, ρ, rp, af⟩ => ?_
  refine (stepL rp af).mono fun x H1 ⟨ds, Hf1, ρ1, n1, ra, af1⟩ => ?_
  unfold mkL at af1
  split at af1
  · rename_i hs
    exact ⟨by rw [repA_len ra]; exact small_le hs, fun p hp => finL n1.rp af1 hp ra⟩
  · exact af1.elim
end
end Fx
namespace Fx
open PySem L2
variable [Tabz]
section
variable {X : Cx} {G : Gx} {e a b : Expr} {es : List Expr} {f g : M D} {fs : M (List D)} {pos : Pos} {A B : Opd}
theorem repA_get {H : Hp} : ∀ {vs : List V} {ds : List D} {j : Nat} {d : D}, RepA H vs ds → ds[j]? = some d → ∃ v, vs[j]? = some v ∧ Rep H v d
  | _, _, _, _, .nil, e => by simp at e
  | _, _, 0, _, .cons h _, e => by
    have q := Option.some.inj e
    subst q
    exact ⟨_, rfl, h⟩
  | _, _, j + 1, d, .cons _ t, e => by
    obtain ⟨v, h1, h2⟩ := repA_get (j := j) (d := d) t e
    exact ⟨v, h1, h2⟩
theorem repA_at {H : Hp} {vs : List V} {ds : List D} {i : Int} {d : D} (h : RepA H vs ds) (e : atI ds i = some d) : ∃ v, atI vs i = some v ∧ Rep H v d := by
  unfold atI at e ⊢
  rw [repA_len h]
  cases q : ixN ds.length i with
  | none => rw [q] at e; cases e
  | some j =>
    rw [q] at e
    exact repA_get (j := j) (d := d) h e
@[simp] def oIx : D → D → Option D
  | .list ds, .int i => atI ds i
  | .tuple ds, .int i => atI ds i
  | .str z, .int i => if small z.length then (atI z.cps.toList i).map fun c => .str ⟨#[c]⟩ else none
  | _, _ => none
theorem rd_ix {K : PySem.W.Frag} : RdO (rIx K) oIx := by
  intro Hf H x y a b d sm ha hb e
  cases a <;> cases b <;> simp only [oIx, reduceCtorEq] at e <;> cases hb.int
  · cases ha.str
    split at e
    · rename_i z i hs
      cases q : atI z.cps.toList i with
      | none => rw [q] at e; cases e
      | some c =>
        rw [q] at e
        cases e
        exact ⟨_, .str _, fun Q k => .inr (.inr ⟨_, _, _, rfl, rfl, small_le hs, q, k⟩)⟩
    · cases e
  · obtain ⟨p, vs, rfl, h1, h2⟩ := ha.lst sm
    obtain ⟨v, e1, r⟩ := repA_at h2 e
    exact ⟨v, r, fun Q q => .inl ⟨_, _, _, _, rfl, rfl, SqL.of h1, e1, q⟩⟩
  · obtain ⟨p, vs, rfl, h1, h2⟩ := ha.tup sm
    obtain ⟨v, e1, r⟩ := repA_at h2 e
    exact ⟨v, r, fun Q q => .inr (.inl ⟨_, _, _, _, rfl, rfl, SqT.of h1, e1, q⟩)⟩
theorem fe_ix (ha : PE X a (A.t G)) (hb : PE X b (B.t G)) (hs : PlainIx b := by exact fun _ _ => rfl) (hqa : A.qok G := by first | exact True.intro | rfl) : PE X (.Subscript a b pos) (tE G (fOp oIx A B)) := (pe_ix ix_seq ha hb hs).imp (rd_op hqa rd_ix)
@[simp] def Opd.isP : Opd → Bool
  | .e _ => false
  | .v _ => false
  | .p _ => true
@[simp] def goAll : List Opd → M (List D)
  | [] => ret []
  | A :: As => fun ρ => if (A.isP && !As.isEmpty) = true then .bad else (bnd A.go fun a => bnd (goAll As) fun as => ret (a :: as)) ρ
@[simp] def atAll : List Opd → List D → Rho → Option (List D)
  | [], [], _ => some []
  | A :: As, a :: as, ρ => (match A.at a ρ with
    | some x => (atAll As as ρ).map (x :: ·)
    | none => none)
  | _, _, _ => none
def tAll (G : Gx) : List Opd → TA
  | [] => tNil
  | A :: As => tCons (A.t G) (tAll G As)
def rAll1 : List Opd → St → Rho → Hp → Hp → List V → List D → Prop
  | [], _, _, _, _, [], [] => True
  | A :: As, σ, ρ, Hf, H, v :: vs, d :: ds => A.r σ ρ Hf H v d ∧ rAll1 As σ ρ Hf H vs ds
  | _, _, _, _, _, _, _ => False
inductive R1A (Hf H : Hp) : List V → List D → Prop
  | nil : R1A Hf H [] []
  | cons {v : V} {vs : List V} {d : D} {ds : List D} : R1 Hf H v d → R1A Hf H vs ds → R1A Hf H (v :: vs) (d :: ds)
theorem rAll1_end {σ : St} {ρ : Rho} {Hf H : Hp} (rp : Rp Hf H σ ρ) : ∀ {As : List Opd} {vs : List V} {ds xs : List D}, rAll1 As σ ρ Hf H vs ds → atAll As ds ρ = some xs → R1A Hf H vs xs
  | [], [], [], xs, _, e => by cases e; exact .nil
  | A :: As, v :: vs, d :: ds, xs, h, e => by
    unfold atAll at e
    cases e1 : A.at d ρ with
    | none => rw [e1] at e; cases e
    | some x =>
      rw [e1] at e
      dsimp only at e
      cases e2 : atAll As ds ρ with
      | none => rw [e2] at e; cases e
      | some ys =>
        rw [e2] at e
        cases e
        exact .cons (Opd.end rp h.1 e1) (rAll1_end rp h.2 e2)
theorem bnd_assoc {α β γ : Type} {f : M α} {g : α → M β} {k : β → M γ} : bnd (bnd f g) k = bnd f fun a => bnd (g a) k := by
  funext ρ
  show (match (match f ρ with
    | .ok (a, ρ1) => g a ρ1
    | .exc c ρ1 => .exc c ρ1
    | .bad => .bad) with
    | .ok (a, ρ1) => k a ρ1
    | .exc c ρ1 => .exc c ρ1
    | .bad => .bad) = _
  unfold bnd
  cases f ρ <;> rfl
theorem tAll_mono {σ : St} {Q Q' : List V → Hp → Prop} (h : ∀ x H, Q x H → Q' x H) : ∀ {As : List Opd} {H : Hp}, tAll G As σ H Q → tAll G As σ H Q'
  | [], H, t => h _ _ t
  | A :: As, H, t => Opd.run (A := A) (Q := fun x H1 => tAll G As σ H1 fun xs H2 => Q (x :: xs) H2) t fun x H1 q => tAll_mono (Q := fun xs H2 => Q (x :: xs) H2) (Q' := fun xs H2 => Q' (x :: xs) H2) (fun ys H2 w => h _ _ w) q
theorem all_run {α : Type} {σ : St} {P : Rho → Hp → Hp → Res α → Prop} (hbad : ∀ {ρ Hf H}, ¬ P ρ Hf H .bad) (hl : ∀ {ρ ρ1 Hf H Hf1 H1 o}, Nxt G.q σ ρ Hf H σ ρ1 Hf1 H1 → P ρ Hf H o → P ρ1 Hf1 H1 o)
    (he : ∀ {ρ Hf H} {A : Opd} {k : D → M α}, Rp Hf H σ ρ → P ρ Hf H (bnd A.go k ρ) → A.t G σ H fun y H1 => ∃ b Hf1 ρ1, Nxt G.q σ ρ Hf H σ ρ1 Hf1 H1 ∧ A.r σ ρ1 Hf1 H1 y b ∧ P ρ1 Hf1 H1 (k b ρ1)) :
    ∀ {As : List Opd} {ρ : Rho} {Hf H : Hp} {k : List D → M α}, Rp Hf H σ ρ → P ρ Hf H (bnd (goAll As) k ρ) → tAll G As σ H fun ys H1 => ∃ bs Hf1 ρ1, Nxt G.q σ ρ Hf H σ ρ1 Hf1 H1 ∧ rAll1 As σ ρ1 Hf1 H1 ys bs ∧ P ρ1 Hf1 H1 (k bs ρ1)
  | [], ρ, Hf, H, k, rp, af => ⟨[], Hf, ρ, .refl rp, True.intro, af⟩
  | A :: As, ρ, Hf, H, k, rp, af => by
    cases hb : (A.isP && !As.isEmpty) with
    | true =>
      have e : bnd (goAll (A :: As)) k ρ = .bad := by
        simp only [bnd, goAll, hb, if_true]
      rw [e] at af
      exact absurd af hbad
    | false =>
    have e : bnd (goAll (A :: As)) k ρ = bnd A.go (fun a => bnd (goAll As) fun as => k (a :: as)) ρ := by
      have e1 : goAll (A :: As) = bnd A.go fun a => bnd (goAll As) fun as => ret (a :: as) := by
        funext ρ
        simp only [goAll, hb, Bool.false_eq_true, if_false]
      rw [e1]
      show bnd (bnd A.go fun a => bnd (goAll As) fun as => ret (a :: as)) k ρ = _
      rw [bnd_assoc]
      congr 1
      funext a
      rw [bnd_assoc]
      rfl
    rw [e] at af
    refine Opd.run (he rp af) fun x H1 ⟨a, Hf1, ρ1, n1, ra, af1⟩ => ?_
    cases As with
    | nil => exact ⟨[a], Hf1, ρ1, n1, ⟨ra, True.intro⟩, af1⟩
    | cons B Bs =>
      have hA : A.qok G := by
        cases A with
        | e _ => exact True.intro
        | v _ => exact True.intro
        | p _ => cases hb
      refine tAll_mono ?_ (all_run (P := P) hbad hl he n1.rp af1)
      rintro ys H2 ⟨bs, Hf2, ρ2, n2, rb, af2⟩
      exact ⟨a :: bs, Hf2, ρ2, n1.trans n2, ⟨Opd.keep hA n1.rp n2 ra, rb⟩, af2⟩
theorem stepA {α β : Type} {R : Hp → β → α → Prop} {σ : St} {Q : β → Hp → Prop} {As : List Opd} {ρ : Rho} {Hf H : Hp} {k : List D → M α} (rp : Rp Hf H σ ρ) (af : AfG G R σ ρ Hf H Q (bnd (goAll As) k ρ)) :
    tAll G As σ H fun ys H1 => ∃ bs Hf1 ρ1, Nxt G.q σ ρ Hf H σ ρ1 Hf1 H1 ∧ rAll1 As σ ρ1 Hf1 H1 ys bs ∧ AfG G R σ ρ1 Hf1 H1 Q (k bs ρ1) :=
  all_run (P := fun ρ Hf H o => AfG G R σ ρ Hf H Q o) (fun z => z) (fun n q => q.later n) (fun rp q => stepO rp q) rp af
@[simp] def finA {α : Type} (As : List Opd) (as : List D) (k : List D → Option α) : M α := fun ρ => match atAll As as ρ with
  | some xs => opt (k xs) ρ
  | none => .bad
@[simp] def fCB (o : List D → Option D) (As : List Opd) : M D := fun ρ => (bnd (goAll As) fun as => finA As as o) ρ
def RdC (r : List V → Hp → VK → Prop) (o : List D → Option D) : Prop := ∀ (Hf H : Hp) (xs : List V) (as : List D) (d : D), Same Hf H → R1A Hf H xs as → o as = some d → ∃ v, Rep Hf v d ∧ ∀ Q : VK, Q v H → r xs H Q
theorem finA_some {α β : Type} {R : Hp → β → α → Prop} {σ : St} {ρ : Rho} {Hf H : Hp} {Q : β → Hp → Prop} {As : List Opd} {as : List D} {k : List D → Option α} (af : AfG G R σ ρ Hf H Q (finA As as k ρ)) : ∃ xs, atAll As as ρ = some xs ∧ AfG G R σ ρ Hf H Q (opt (k xs) ρ) := by
  unfold finA at af
  cases e1 : atAll As as ρ with
  | none => rw [e1] at af; exact af.elim
  | some x => rw [e1] at af; exact ⟨x, rfl, af⟩
variable {As : List Opd}
theorem rd_CB {r : List V → Hp → VK → Prop} {o : List D → Option D} (hr : RdC r o) (σ : St) (H : Hp) (Q : VK) (h : tE G (fCB o As) σ H Q) : tCB r (tAll G As) σ H Q := by
  obtain ⟨Hf, ρ, rp, af⟩ := h
  refine tAll_mono ?_ (stepA rp af)
  rintro xs H1 ⟨as, Hf1, ρ1, n1, ra, af1⟩
  obtain ⟨as', ea, af2⟩ := finA_some af1
  obtain ⟨d, e, k⟩ := finO n1.rp af2
  obtain ⟨v, dv, hq⟩ := hr Hf1 H1 xs as' d n1.rp.sub (rAll1_end n1.rp ra ea) e
  exact hq Q (k v dv)
theorem fe_callB {r : List V → Hp → VK → Prop} {o : List D → Option D} {x : Str} {p : Pos} {id : String} (hc : CallR X (.builtin id) r) (hr : RdC r o) (hg : Gl X x) (hm : X.mg x = none) (hv : bootBuiltins x = some (.builtin id)) (ha : PA X (e :: es) (tAll G As)) (hn : x ≠ "__name__" := by decide) (hdb : (x == ("__debug__" : Str)) = false := by decide)
    (he : starEach (e :: es) X.env = (false, eval e X.env) :: starEach es X.env := by rfl) (hpl : (backTo pos (starEach es X.env)).any (·.1) = false := by rfl) : PE X (.Call (.Name x p) (e :: es) [] pos) (tE G (fCB o As)) := (pe_callB hc hg hm hv ha hn hdb he hpl).imp (rd_CB hr)
theorem fe_callTy {r : List V → Hp → VK → Prop} {o : List D → Option D} {x : Str} {p : Pos} {T : String} (hc : CallR X (.type T) r) (hr : RdC r o) (hg : Gl X x) (hm : X.mg x = none) (hv : bootBuiltins x = some (.type T)) (ha : PA X (e :: es) (tAll G As)) (hn : x ≠ "__name__" := by decide) (hdb : (x == ("__debug__" : Str)) = false := by decide)
    (he : starEach (e :: es) X.env = (false, eval e X.env) :: starEach es X.env := by rfl) (hpl : (backTo pos (starEach es X.env)).any (·.1) = false := by rfl) : PE X (.Call (.Name x p) (e :: es) [] pos) (tE G (fCB o As)) := (pe_callTy hc hg hm hv ha hn hdb he hpl).imp (rd_CB hr)
@[simp] def oLen : List D → Option D
  | [.list ds] => some (.int ds.length)
  | [.tuple ds] => some (.int ds.length)
  | [.str z] => if small z.length then some (.int z.length) else none
  | _ => none
theorem rd_len {K : PySem.W.Frag} : RdC (fun xs H Q => ∃ x n, xs = [x] ∧ LenV K x H n ∧ Q (.int n) H) oLen := by
  intro Hf H xs as d sm ra e
  unfold oLen at e
  split at e
  · cases e
    cases ra with
    | cons h t => cases t; obtain ⟨p, vs, rfl, h1, h2⟩ := h.lst sm; exact ⟨_, .int _, fun Q q => ⟨_, _, rfl, .inl ⟨_, SqL.of h1, (repA_len h2).symm⟩, q⟩⟩
  · cases e
    cases ra with
    | cons h t => cases t; obtain ⟨p, vs, rfl, h1, h2⟩ := h.tup sm; exact ⟨_, .int _, fun Q q => ⟨_, _, rfl, .inr ⟨_, SqT.of h1, (repA_len h2).symm⟩, q⟩⟩
  · split at e
    · rename_i hs
      cases e
      cases ra with
      | cons h t => cases t; cases h.str; exact ⟨_, .int _, fun Q q => ⟨_, _, rfl, ⟨small_le hs, rfl⟩, q⟩⟩
    · cases e
  · cases e
theorem fe_len {p : Pos} (hg : Gl X "len") (hm : X.mg "len" = none) (ha : PA X [e] (tAll G As)) (he : starEach [e] X.env = (false, eval e X.env) :: starEach [] X.env := by rfl) (hpl : (backTo pos (starEach [] X.env)).any (·.1) = false := by rfl) : PE X (.Call (.Name "len" p) [e] [] pos) (tE G (fCB oLen As)) :=
  fe_callB call_len rd_len hg hm PySem.boot_len ha (by decide) (by decide) he hpl
@[simp] def oMax2 : List D → Option D
  | [.int i, .int j] => some (.int (if j > i then j else i))
  | _ => none
@[simp] def oMin2 : List D → Option D
  | [.int i, .int j] => some (.int (if j < i then j else i))
  | _ => none
def asInts : List D → Option (List Int)
  | [] => some []
  | .int i :: r => (asInts r).map (i :: ·)
  | _ => none
def asBools : List D → Option (List Bool)
  | [] => some []
  | .bool i :: r => (asBools r).map (i :: ·)
  | _ => none
theorem asBools_rep {H : Hp} : ∀ {vs : List V} {ds : List D} {ns : List Bool}, RepA H vs ds → asBools ds = some ns → vs = ns.map V.bl
  | _, [], _, .nil, e => by cases e; rfl
  | _, .bool i :: r, ns, .cons h t, e => by
    simp only [asBools] at e
    cases q : asBools r with
    | none => rw [q] at e; cases e
    | some ms =>
      rw [q] at e
      cases e
      cases h
      rw [asBools_rep t q]
      rfl
@[simp] def oSum : List D → Option D
  | [.list ds] => (asInts ds).map fun ns => .int ns.sum
  | _ => none
@[simp] def oAll : List D → Option D
  | [.list ds] => (asBools ds).map fun ns => .bool (ns.all id)
  | _ => none
@[simp] def oAny : List D → Option D
  | [.list ds] => (asBools ds).map fun ns => .bool (ns.any id)
  | _ => none
theorem rd_all {K : PySem.W.Frag} : RdC (rAll K) oAll := by
  intro Hf H xs as d sm ra e
  match as, ra, e with
  | [.list ds], .cons h1 .nil, e =>
    simp only [oAll] at e
    cases q : asBools ds with
    | none => rw [q] at e; cases e
    | some ns =>
      rw [q] at e; cases e
      obtain ⟨p, vs, rfl, h2, h3⟩ := h1.lst sm
      exact ⟨_, .bl _, fun Q k => ⟨_, ns, rfl, by rw [← asBools_rep h3 q]; exact SqL.of h2, k⟩⟩
theorem fe_all {p : Pos} (hc : X.calm = true) (hg : Gl X "all") (hm : X.mg "all" = none) (ha : PA X (e :: es) (tAll G As)) (he : starEach (e :: es) X.env = (false, eval e X.env) :: starEach es X.env := by rfl) (hpl : (backTo pos (starEach es X.env)).any (·.1) = false := by rfl) : PE X (.Call (.Name "all" p) (e :: es) [] pos) (tE G (fCB oAll As)) := fe_callB (cr_all hc) rd_all hg hm (by decide +kernel) ha (by decide) (by decide) he hpl
end
end Fx
namespace Fx
open PySem L2
variable [Tabz]
section
variable {X : Cx} {G : Gx} {e a b : Expr} {es : List Expr} {f g : M D} {fs : M (List D)} {pos : Pos} {A B : Opd} {As : List Opd}
inductive Ext (Hf H : Hp) : Hp → Hp → Prop
  | same : Ext Hf H Hf H
  | new {p : Addr} {o : HO} (h : H p = none) (ho : NT o := by first | exact NT.lst | exact NT.tup) : Ext Hf H (upd Hf p o) (upd H p o)
theorem Rp.ext {q : Bool} {σ : St} {ρ : Rho} {Hf H Hf' H' : Hp} (rp : Rp Hf H σ ρ) (x : Ext Hf H Hf' H') : Nxt q σ ρ Hf H σ ρ Hf' H' := by
  cases x with
  | same => exact .refl rp
  | new h ho => exact rp.new h ho
def RdX (r : List V → Hp → VK → Prop) (o : List D → Option D) : Prop := ∀ (Hf H : Hp) (xs : List V) (as : List D) (d : D), Same Hf H → R1A Hf H xs as → o as = some d → ∀ Q : VK, (∀ v Hf' H', Ext Hf H Hf' H' → Rep Hf' v d → Q v H') → r xs H Q
theorem rd_CX {r : List V → Hp → VK → Prop} {o : List D → Option D} (hr : RdX r o) (σ : St) (H : Hp) (Q : VK) (h : tE G (fCB o As) σ H Q) : tCB r (tAll G As) σ H Q := by
  obtain ⟨Hf, ρ, rp, af⟩ := h
  refine tAll_mono ?_ (stepA rp af)
  rintro xs H1 ⟨as, Hf1, ρ1, n1, ra, af1⟩
  obtain ⟨as', ea, af2⟩ := finA_some af1
  unfold opt at af2
  cases e : o as' with
  | none => rw [e] at af2; exact af2.elim
  | some d =>
    rw [e] at af2
    exact hr Hf1 H1 xs as' d n1.rp.sub (rAll1_end n1.rp ra ea) e Q fun v Hf' H' z rv => af2 v Hf' H' (n1.rp.ext z) rv
theorem fe_callTyX {r : List V → Hp → VK → Prop} {o : List D → Option D} {x : Str} {p : Pos} {T : String} (hc : CallR X (.type T) r) (hr : RdX r o) (hg : Gl X x) (hm : X.mg x = none) (hv : bootBuiltins x = some (.type T)) (ha : PA X (e :: es) (tAll G As)) (hn : x ≠ "__name__" := by decide) (hdb : (x == ("__debug__" : Str)) = false := by decide)
    (he : starEach (e :: es) X.env = (false, eval e X.env) :: starEach es X.env := by rfl) (hpl : (backTo pos (starEach es X.env)).any (·.1) = false := by rfl) : PE X (.Call (.Name x p) (e :: es) [] pos) (tE G (fCB o As)) := (pe_callTy hc hg hm hv ha hn hdb he hpl).imp (rd_CX hr)
@[simp] def oTuple : List D → Option D
  | [.list ds] => some (.tuple ds)
  | [.tuple ds] => some (.tuple ds)
  | _ => none
theorem rd_tuple {K : PySem.W.Frag} : RdX (fun xs H Q => ∃ p ys, xs = [.ref p] ∧ ((SqL K H p ys ∧ ∀ l, H l = none → Q (.ref l) (upd H l (.tup ys))) ∨ (SqT K H p ys ∧ Q (.ref p) H))) oTuple := by
  intro Hf H xs as d sm ra e Q q
  match as, ra, e with
  | [.list ds], .cons h1 .nil, e =>
    cases e
    obtain ⟨p, vs, rfl, h2, h3⟩ := h1.lst sm
    exact ⟨_, _, rfl, .inl ⟨SqL.of h2, fun l hl => q _ _ _ (.new hl) (.tup upd_same (repA_same (same_new (sm.free hl)) h3))⟩⟩
  | [.tuple ds], .cons h1 .nil, e =>
    cases e
    have h4 := h1.rep fun _ z => nomatch z
    obtain ⟨p, vs, rfl, h2, h3⟩ := h1.tup sm
    exact ⟨_, _, rfl, .inr ⟨SqT.of h2, q _ _ _ .same h4⟩⟩
theorem fe_tuple {p : Pos} (hg : Gl X "tuple") (hm : X.mg "tuple" = none) (ha : PA X (e :: es) (tAll G As)) (he : starEach (e :: es) X.env = (false, eval e X.env) :: starEach es X.env := by rfl) (hpl : (backTo pos (starEach es X.env)).any (·.1) = false := by rfl) : PE X (.Call (.Name "tuple" p) (e :: es) [] pos) (tE G (fCB oTuple As)) := fe_callTyX call_tuple_of rd_tuple hg hm (by decide +kernel) ha (by decide) (by decide) he hpl
theorem stepOL {σ : St} {ρ : Rho} {Hf H : Hp} {Q : VK} {k : D → M (List D)} (rp : Rp Hf H σ ρ) (af : AfL G σ ρ Hf H Q (bnd A.go k ρ)) :
    A.t G σ H fun y H1 => ∃ b Hf1 ρ1, Nxt G.q σ ρ Hf H σ ρ1 Hf1 H1 ∧ A.r σ ρ1 Hf1 H1 y b ∧ AfL G σ ρ1 Hf1 H1 Q (k b ρ1) := by
  cases A with
  | e f => exact stepL rp af
  | v i =>
    unfold bnd Opd.go at af
    dsimp only at af
    cases e : look i ρ with
    | none => rw [e] at af; exact af.elim
    | some d =>
      rw [e] at af
      obtain ⟨v, h1, _⟩ := look_R1 rp e
      exact ⟨v, h1, d, Hf, ρ, .refl rp, h1, af⟩
  | p f =>
    refine ⟨Hf, ρ, rp, ?_⟩
    unfold bnd Opd.go bnd at af
    dsimp only at af
    cases e : f ρ with
    | ok x =>
      obtain ⟨p, ρ1⟩ := x
      rw [e] at af
      dsimp only at af
      intro v s Hf1 H1 n a
      unfold lookP at af
      cases e2 : (trAt p ρ1).bind lkD with
      | none => rw [e2] at af; exact af.elim
      | some d =>
        rw [e2] at af
        rw [a.trAt] at e2
        exact ⟨d, Hf1, ρ1, n, ⟨p, s, a, e2⟩, af.later n⟩
    | exc c ρ1 => rw [e] at af; exact af
    | bad => rw [e] at af; exact af
theorem stepAL {σ : St} {Q : VK} {As : List Opd} {ρ : Rho} {Hf H : Hp} {k : List D → M (List D)} (rp : Rp Hf H σ ρ) (af : AfL G σ ρ Hf H Q (bnd (goAll As) k ρ)) :
    tAll G As σ H fun ys H1 => ∃ bs Hf1 ρ1, Nxt G.q σ ρ Hf H σ ρ1 Hf1 H1 ∧ rAll1 As σ ρ1 Hf1 H1 ys bs ∧ AfL G σ ρ1 Hf1 H1 Q (k bs ρ1) :=
  all_run (P := fun ρ Hf H o => AfL G σ ρ Hf H Q o) (fun z => z) (fun n q => q.later n) (fun rp q => stepOL rp q) rp af
theorem finOL {σ : St} {ρ : Rho} {Hf H : Hp} {Q : VK} {o : Option (List D)} (rp : Rp Hf H σ ρ) (af : AfL G σ ρ Hf H Q (opt o ρ)) : ∃ ds, o = some ds ∧ ∀ p vs, H p = none → RepA Hf vs ds → Q (.ref p) (upd H p (.lst vs)) := by
  cases o with
  | none => exact af.elim
  | some ds => exact ⟨ds, rfl, fun p vs hp r => finL rp af hp r⟩
theorem fin2_someL {σ : St} {ρ : Rho} {Hf H : Hp} {Q : VK} {a b : D} {k : D → D → Option (List D)} (af : AfL G σ ρ Hf H Q (fin2 A B a b k ρ)) : ∃ x y, A.at a ρ = some x ∧ B.at b ρ = some y ∧ AfL G σ ρ Hf H Q (opt (k x y) ρ) := by
  unfold fin2 at af
  cases e1 : A.at a ρ with
  | none => rw [e1] at af; exact af.elim
  | some x =>
    rw [e1] at af
    cases e2 : B.at b ρ with
    | none => simp only [e2] at af; exact False.elim af
    | some y =>
      simp only [e2] at af
      exact ⟨x, y, rfl, rfl, af⟩
theorem fin1_someL {σ : St} {ρ : Rho} {Hf H : Hp} {Q : VK} {a : D} {k : D → Option (List D)} (af : AfL G σ ρ Hf H Q (fin1 A a k ρ)) : ∃ x, A.at a ρ = some x ∧ AfL G σ ρ Hf H Q (opt (k x) ρ) := by
  unfold fin1 at af
  cases e1 : A.at a ρ with
  | none => rw [e1] at af; exact af.elim
  | some x => rw [e1] at af; exact ⟨x, rfl, af⟩
@[simp] def fLB (o : List D → Option (List D)) (As : List Opd) : M (List D) := fun ρ => (bnd (goAll As) fun as => finA As as o) ρ
@[simp] def oList : List D → Option (List D)
  | [.list ds] => some ds
  | [.tuple ds] => some ds
  | _ => none
def RdOL (r : R2) (o : D → D → Option (List D)) : Prop := ∀ (Hf H : Hp) (x y : V) (a b : D) (ds : List D), Same Hf H → R1 Hf H x a → R1 Hf H y b → o a b = some ds → ∀ Q : VK, (∀ p vs, H p = none → RepA Hf vs ds → Q (.ref p) (upd H p (.lst vs))) → r x y H Q
@[simp] def fOpL (o : D → D → Option (List D)) (A B : Opd) : M (List D) := fun ρ => (bnd A.go fun a => bnd B.go fun b => fin2 A B a b o) ρ
theorem fl_op {r : R2} {o : D → D → Option (List D)} {op : Operator} (ho : OpR X (binaryOp op) r) (hr : RdOL r o) (ha : PE X a (A.t G)) (hb : PE X b (B.t G)) (hqa : A.qok G := by first | exact True.intro | rfl) : PE X (.BinOp a op b pos) (tL G (fOpL o A B)) := by
  refine (pe_op ho ha hb).imp fun σ H Q ⟨Hf, ρ, rp, af⟩ => ?_
  refine Opd.run (stepOL rp af) fun x H1 ⟨d1, Hf1, ρ1, n1, ra, af1⟩ => Opd.run (stepOL n1.rp af1) fun y H2 ⟨d2, Hf2, ρ2, n2, rb, af2⟩ => ?_
  obtain ⟨a', b', ea, eb, af3⟩ := fin2_someL af2
  obtain ⟨ds, e, k⟩ := finOL n2.rp af3
  exact hr Hf2 H2 x y a' b' ds n2.rp.sub (Opd.end n2.rp (Opd.keep hqa n1.rp n2 ra) ea) (Opd.end n2.rp rb eb) e Q k
theorem repA_append {H : Hp} : ∀ {vs ws : List V} {ds es : List D}, RepA H vs ds → RepA H ws es → RepA H (vs ++ ws) (ds ++ es)
  | _, _, _, _, .nil, h => h
  | _, _, _, _, .cons h t, h' => .cons h (repA_append t h')
theorem repA_take {H : Hp} : ∀ {vs : List V} {ds : List D} (n : Nat), RepA H vs ds → RepA H (vs.take n) (ds.take n)
  | _, _, 0, _ => by rw [List.take_zero, List.take_zero]; exact .nil
  | _, _, n + 1, .nil => .nil
  | _, _, n + 1, .cons h t => .cons h (repA_take n t)
theorem repA_drop {H : Hp} : ∀ {vs : List V} {ds : List D} (n : Nat), RepA H vs ds → RepA H (vs.drop n) (ds.drop n)
  | _, _, 0, h => h
  | _, _, n + 1, .nil => .nil
  | _, _, n + 1, .cons h t => repA_drop n t
theorem repA_set {H : Hp} {v : V} {d : D} (r : Rep H v d) : ∀ {vs : List V} {ds : List D} (j : Nat), RepA H vs ds → RepA H (vs.set j v) (ds.set j d)
  | _, _, _, .nil => .nil
  | _, _, 0, .cons _ t => .cons r t
  | _, _, j + 1, .cons h t => .cons h (repA_set r j t)
@[simp] def oCat : D → D → Option (List D)
  | .list xs, .list ys => if small (xs.length + ys.length) then some (xs ++ ys) else none
  | _, _ => none
theorem rd_cat : RdOL rCat oCat := by
  intro Hf H x y a b ds sm ha hb e Q q
  cases a <;> cases b <;> simp only [oCat, reduceCtorEq] at e
  split at e
  · rename_i hs
    cases e
    obtain ⟨p1, vs1, rfl, h1, h2⟩ := ha.lst sm
    obtain ⟨p2, vs2, rfl, h3, h4⟩ := hb.lst sm
    exact ⟨_, _, _, _, rfl, rfl, h1, h3, by rw [repA_len h2, repA_len h4]; exact small_le hs, fun p hp => q p _ hp (repA_append h2 h4)⟩
  · cases e
theorem fl_cat (ha : PE X a (A.t G)) (hb : PE X b (B.t G)) (hqa : A.qok G := by first | exact True.intro | rfl) : PE X (.BinOp a .Add b pos) (tL G (fOpL oCat A B)) := fl_op op_cat rd_cat ha hb hqa
def cut {α : Type} (xs : List α) (lo hi : Option Int) : List α := (xs.drop (HT.sIx xs.length 0 lo)).take (HT.sIx xs.length xs.length hi - HT.sIx xs.length 0 lo)
theorem repA_cut {H : Hp} {vs : List V} {ds : List D} (h : RepA H vs ds) (lo hi : Option Int) : RepA H (cutV vs lo hi) (cut ds lo hi) := by
  unfold cutV cut
  rw [repA_len h]
  exact repA_take _ (repA_drop _ h)
abbrev tP (G : Gx) (f : M (Option Int)) : TO := tG G (fun _ x y => x = y) f
@[simp] def fNoP : M (Option Int) := fun ρ => (ret none) ρ
@[simp] def asI : D → Option Int
  | .int i => some i
  | _ => none
@[simp] def fP (f : M D) : M (Option Int) := fun ρ => (bnd f fun d => bnd (opt (asI d)) fun i => ret (some i)) ρ
theorem _root_.L2.PO.imp {o : Option Expr} {t t' : TO} (h : PO X o t) (i : ∀ σ H Q, t' σ H Q → t σ H Q) : PO X o t' := ⟨fun pins s σ H Q I q => h.run pins s σ H Q I (i _ _ _ q)⟩
theorem fp_none : PO X none (tP G fNoP) := po_none.imp fun σ H Q ⟨Hf, ρ, rp, af⟩ => fin rp af rfl
theorem fp_some (h : PE X e (tE G f)) : PO X (some e) (tP G (fP f)) := by
  refine (po_some h).imp fun σ H Q ⟨Hf, ρ, rp, af⟩ => ?_
  refine (step rp af).mono fun x H1 ⟨d, Hf1, ρ1, n1, ra, af1⟩ => ?_
  cases d <;> first | exact af1.elim | skip
  exact ⟨_, rep_int ra, fin n1.rp af1 rfl⟩
@[simp] def oSl (lo hi : Option Int) (d : D) : Option (List D) := match d with
  | .list ds => some (cut ds lo hi)
  | _ => none
@[simp] def fSl (A : Opd) (l h : M (Option Int)) : M (List D) := fun ρ => (bnd A.go fun a => bnd l fun lo => bnd h fun hi => fin1 A a (oSl lo hi)) ρ
variable {l h : M (Option Int)} {lo hi : Option Expr} {p2 : Pos}
theorem fl_slice (he : PE X e (A.t G)) (hl : PO X lo (tP G l)) (hh : PO X hi (tP G h)) (hqa : A.qok G := by first | exact True.intro | rfl) : PE X (.Subscript e (.Slice lo hi none p2) pos) (tL G (fSl A l h)) := by
  refine (pe_slice sl_list he hl hh).imp fun σ H Q ⟨Hf, ρ, rp, af⟩ => ?_
  refine Opd.run (stepOL rp af) fun x H1 ⟨d, Hf1, ρ1, n1, ra, af1⟩ => (stepL n1.rp af1).mono fun y H2 ⟨i, Hf2, ρ2, n2, rb, af2⟩ => (stepL n2.rp af2).mono fun z H3 ⟨j, Hf3, ρ3, n3, rc, af3⟩ => ?_
  subst rb rc
  obtain ⟨d', ed, af4⟩ := fin1_someL af3
  have rd := Opd.end n3.rp (Opd.keep hqa n1.rp (n2.trans n3) ra) ed
  obtain ⟨ds, e, k⟩ := finOL n3.rp af4
  cases d' <;> simp only [oSl, reduceCtorEq, Option.some.injEq] at e
  subst e
  obtain ⟨p, vs, rfl, h1, h2⟩ := rd.lst n3.rp.sub
  exact ⟨_, _, rfl, SqL.of h1, fun p hp => k p _ hp (repA_cut h2 _ _)⟩
def oSlT (lo hi : Option Int) (d : D) : Option D := match d with
  | .tuple ds => if HT.sIx ds.length 0 lo = 0 ∧ HT.sIx ds.length ds.length hi = ds.length then none else some (.tuple (cut ds lo hi))
  | _ => none
@[simp] def fSlT (f : M D) (l h : M (Option Int)) : M D := fun ρ => (bnd f fun d => bnd l fun lo => bnd h fun hi => opt (oSlT lo hi d)) ρ
def oSlS (lo hi : Option Int) (d : D) : Option D := match d with
  | .str z => if small z.length then some (.str (cutS z lo hi)) else none
  | _ => none
@[simp] def fSlS (f : M D) (l h : M (Option Int)) : M D := fun ρ => (bnd f fun d => bnd l fun lo => bnd h fun hi => opt (oSlS lo hi d)) ρ
theorem fe_sliceS (he : PE X e (tE G f)) (hl : PO X lo (tP G l)) (hh : PO X hi (tP G h)) : PE X (.Subscript e (.Slice lo hi none p2) pos) (tE G (fSlS f l h)) := by
  refine (pe_slice sl_str he hl hh).imp fun σ H Q ⟨Hf, ρ, rp, af⟩ => ?_
  refine (step rp af).mono fun x H1 ⟨d, Hf1, ρ1, n1, ra, af1⟩ => (step n1.rp af1).mono fun y H2 ⟨i, Hf2, ρ2, n2, rb, af2⟩ => (step n2.rp af2).mono fun z H3 ⟨j, Hf3, ρ3, n3, rc, af3⟩ => ?_
  subst rb rc
  cases ra with
  | str w =>
    cases hs : small w.length with
    | false => simp only [oSlS, hs] at af3; exact False.elim af3
    | true =>
      simp only [oSlS, hs] at af3
      exact ⟨_, rfl, small_le hs, fin (R := Rep) n3.rp af3 (.str _)⟩
  | tup _ _ => exact af3.elim
  | lst _ _ => exact af3.elim
  | non => exact af3.elim
  | ins _ _ _ => exact af3.elim
  | dct _ _ _ => exact af3.elim
  | bl _ => exact af3.elim
  | int _ => exact af3.elim
end
end Fx
namespace Fx
open PySem L2
variable [Tabz]
section
variable {X : Cx} {G : Gx} {e a b : Expr} {es : List Expr} {f g : M D} {fs : M (List D)} {pos : Pos} {tg : Expr}
def IterOk (σ0 : St) (ρ0 : Rho) (Hf0 H0 : Hp) (J : It) (ds : List D) : Prop := ∀ (i : Nat) (Hf H : Hp) (σ : St) (ρ : Rho), Nxt false σ0 ρ0 Hf0 H0 σ ρ Hf H →
  (∀ d, ds[i]? = some d → J.go i H ∧ ∀ x H', J.yld i H x H' → ∃ Hf', Nxt true σ ρ Hf H σ ρ Hf' H' ∧ Rep Hf' x d) ∧ (ds.length ≤ i → J.stop i H)
def AfI (G : Gx) (σ : St) (ρ : Rho) (Hf H : Hp) (R : It → Hp → Prop) : Res (List D) → Prop
  | .ok (ds, ρ') => ∀ J Hf' H', Nxt G.q σ ρ Hf H σ ρ' Hf' H' → IterOk σ ρ' Hf' H' J ds → R J H'
  | .exc c ρ' => ∀ Hf' H', Nxt G.q σ ρ Hf H σ ρ' Hf' H' → G.W (.ref (G.cA c)) none σ H'
  | .bad => False
def tI (G : Gx) (f : M (List D)) : TI := fun σ H R => ∃ Hf ρ, Rp Hf H σ ρ ∧ AfI G σ ρ Hf H R (f ρ)
theorem AfI.later {σ : St} {ρ ρ1 : Rho} {Hf H Hf1 H1 : Hp} {R : It → Hp → Prop} (n : Nxt G.q σ ρ Hf H σ ρ1 Hf1 H1) : ∀ {o : Res (List D)}, AfI G σ ρ Hf H R o → AfI G σ ρ1 Hf1 H1 R o
  | .ok (a, ρ'), q => fun J Hf' H' n' r => q J Hf' H' (n.trans n') r
  | .exc c ρ', q => fun Hf' H' n' => q Hf' H' (n.trans n')
  | .bad, q => q
theorem stepI {α γ : Type} {R1 : Hp → α → γ → Prop} {σ : St} {ρ : Rho} {Hf H : Hp} {Q : It → Hp → Prop} {g : M γ} {k : γ → M (List D)} (rp : Rp Hf H σ ρ) (af : AfI G σ ρ Hf H Q (bnd g k ρ)) :
    tG G R1 g σ H fun y H1 => ∃ b Hf1 ρ1, Nxt G.q σ ρ Hf H σ ρ1 Hf1 H1 ∧ R1 Hf1 y b ∧ AfI G σ ρ1 Hf1 H1 Q (k b ρ1) := by
  refine ⟨Hf, ρ, rp, ?_⟩
  unfold bnd at af
  cases e : g ρ with
  | ok p =>
    obtain ⟨b, ρ1⟩ := p
    rw [e] at af
    exact fun x Hf1 H1 n r => ⟨b, Hf1, ρ1, n, r, af.later n⟩
  | exc c ρ1 => rw [e] at af; exact af
  | bad => rw [e] at af; exact af
theorem finI {σ : St} {ρ : Rho} {Hf H : Hp} {R : It → Hp → Prop} {ds : List D} {J : It} (rp : Rp Hf H σ ρ) (af : AfI G σ ρ Hf H R (ret ds ρ)) (h : IterOk σ ρ Hf H J ds) : R J H := af J Hf H (.refl rp) h
theorem tI.mono {f : M (List D)} {σ : St} {H : Hp} {R R' : It → Hp → Prop} (h : ∀ x H, R x H → R' x H) (t : tI G f σ H R) : tI G f σ H R' := by
  obtain ⟨Hf, ρ, rp, q⟩ := t
  refine ⟨Hf, ρ, rp, ?_⟩
  cases e : f ρ with
  | ok x => obtain ⟨ds, ρ'⟩ := x; rw [e] at q; exact fun J Hf' H' n r => h _ _ (q J Hf' H' n r)
  | exc c ρ' => rw [e] at q; exact q
  | bad => rw [e] at q; exact q
theorem _root_.L2.PI.imp {iter : Expr} {t t' : TI} (h : PI X tg iter t) (i : ∀ σ H R, t' σ H R → t σ H R) : PI X tg iter t' := ⟨fun pins s σ H R I q => h.run pins s σ H R I (i _ _ _ q)⟩
@[simp] def itemsL : D → Option (List D)
  | .list ds => some ds
  | _ => none
@[simp] def itemsT : D → Option (List D)
  | .tuple ds => some ds
  | _ => none
@[simp] def fItL (f : M D) : M (List D) := fun ρ => (bnd f fun d => opt (itemsL d)) ρ
@[simp] def fItT (f : M D) : M (List D) := fun ρ => (bnd f fun d => opt (itemsT d)) ρ
theorem iter_list {K : PySem.W.Frag} {σ0 : St} {ρ0 : Rho} {Hf H0 : Hp} {p : Addr} {vs : List V} {ds : List D} (h : Hf p = some (.lst vs)) (r : RepA Hf vs ds) : IterOk σ0 ρ0 Hf H0 (Itl K p) ds := by
  intro i Hf1 H σ ρ nn
  have s1 := nn.sub
  have rp := nn.rp
  have hq : SqL K H p vs := SqL.of (rp.sub _ _ (s1 _ _ h))
  refine ⟨fun d e => ?_, fun hl => ⟨vs, hq, by rw [repA_len r]; exact hl⟩⟩
  obtain ⟨v, e1, r1⟩ := repA_get r e
  refine ⟨⟨vs, v, hq, e1⟩, fun x H' ⟨eh, hx⟩ => ?_⟩
  subst eh
  have q := hx vs hq
  rw [e1] at q
  cases q
  exact ⟨Hf1, .refl rp, rep_same s1 r1⟩
theorem iter_tup {K : PySem.W.Frag} {σ0 : St} {ρ0 : Rho} {Hf H0 : Hp} {p : Addr} {vs : List V} {ds : List D} (h : Hf p = some (.tup vs)) (r : RepA Hf vs ds) : IterOk σ0 ρ0 Hf H0 (Itt K p) ds := by
  intro i Hf1 H σ ρ nn
  have s1 := nn.sub
  have rp := nn.rp
  have hq : SqT K H p vs := SqT.of (rp.sub _ _ (s1 _ _ h))
  refine ⟨fun d e => ?_, fun hl => ⟨vs, hq, by rw [repA_len r]; exact hl⟩⟩
  obtain ⟨v, e1, r1⟩ := repA_get r e
  refine ⟨⟨vs, v, hq, e1⟩, fun x H' ⟨eh, hx⟩ => ?_⟩
  subst eh
  have q := hx vs hq
  rw [e1] at q
  cases q
  exact ⟨Hf1, .refl rp, rep_same s1 r1⟩
theorem fi_list (h : PE X e (tE G f)) : PI X tg e (tI G (fItL f)) := by
  refine (pi_list h).imp fun σ H R ⟨Hf, ρ, rp, af⟩ => ?_
  refine (stepI rp af).mono fun x H1 ⟨d, Hf1, ρ1, n1, ra, af1⟩ => ?_
  cases ra with
  | lst h1 h2 => exact ⟨_, rfl, ⟨_, SqL.of (n1.rp.sub _ _ h1)⟩, finI n1.rp af1 (iter_list h1 h2)⟩
  | tup _ _ => exact af1.elim
  | non => exact af1.elim
  | ins _ _ _ => exact af1.elim
  | dct _ _ _ => exact af1.elim
  | bl _ => exact af1.elim
  | int _ => exact af1.elim
  | str _ => exact af1.elim
theorem fi_tup (h : PE X e (tE G f)) : PI X tg e (tI G (fItT f)) := by
  refine (pi_tup h).imp fun σ H R ⟨Hf, ρ, rp, af⟩ => ?_
  refine (stepI rp af).mono fun x H1 ⟨d, Hf1, ρ1, n1, ra, af1⟩ => ?_
  cases ra with
  | tup h1 h2 => exact ⟨_, rfl, ⟨_, SqT.of (n1.rp.sub _ _ h1)⟩, finI n1.rp af1 (iter_tup h1 h2)⟩
  | lst _ _ => exact af1.elim
  | non => exact af1.elim
  | ins _ _ _ => exact af1.elim
  | dct _ _ _ => exact af1.elim
  | bl _ => exact af1.elim
  | int _ => exact af1.elim
  | str _ => exact af1.elim
@[simp] def fAB (o : List D → Option (List D)) (fs : M (List D)) : M (List D) := fun ρ => (bnd fs fun as => opt (o as)) ρ
def rng (lo : Int) (n : Nat) : List D := (List.range n).map fun (i : Nat) => PyData.int (lo + i)
theorem iter_rng {σ0 : St} {ρ0 : Rho} {Hf H0 : Hp} {lo : Int} {n : Nat} : IterOk σ0 ρ0 Hf H0 (Itr lo n) (rng lo n) := by
  intro i Hf1 H σ ρ nn
  have s1 := nn.sub
  have rp := nn.rp
  refine ⟨fun d e => ?_, fun hl => (by simpa [rng] using hl : n ≤ i)⟩
  unfold rng at e
  rw [List.getElem?_map] at e
  cases q : (List.range n)[i]? with
  | none => rw [q] at e; cases e
  | some j =>
    rw [q] at e
    cases e
    obtain ⟨h1, h2⟩ := List.getElem?_eq_some_iff.mp q
    rw [List.length_range] at h1
    rw [List.getElem_range] at h2
    subst h2
    refine ⟨h1, fun x H' ⟨e1, e2⟩ => ?_⟩
    subst e1 e2
    exact ⟨Hf1, .refl rp, .int _⟩
def oRng1 : List D → Option (List D)
  | [.int j] => if small j.natAbs then some (rng 0 j.toNat) else none
  | _ => none
theorem fi_rng1 {p : Pos} (hg : Gl X "range") (hm : X.mg "range" = none) (ha : PA X [e] (tA G fs)) (he : starEach [e] X.env = [(false, eval e X.env)] := by rfl) : PI X tg (.Call (.Name "range" p) [e] [] pos) (tI G (fAB oRng1 fs)) := by
  refine (pi_range1 hg hm ha he).imp fun σ H R ⟨Hf, ρ, rp, af⟩ => ?_
  refine (stepI rp af).mono fun x H1 ⟨as, Hf1, ρ1, n1, ra, af1⟩ => ?_
  match as, ra, af1 with
  | [.int j], .cons h1 .nil, af1 =>
    cases h1
    cases hd : small j.natAbs with
    | true =>
      simp only [oRng1, hd] at af1
      have hs : _ ≤ 100000 := of_decide_eq_true hd
      exact ⟨j, rfl, by omega, by omega, finI n1.rp af1 iter_rng⟩
    | false =>
      simp only [oRng1, hd] at af1
      exact False.elim af1
  | [], _, af1 => exact False.elim af1
  | [.none], _, af1 => exact False.elim af1
  | [.bool _], _, af1 => exact False.elim af1
  | [.str _], _, af1 => exact False.elim af1
  | [.list _], _, af1 => exact False.elim af1
  | [.tuple _], _, af1 => exact False.elim af1
  | [.dict _], _, af1 => exact False.elim af1
  | _ :: _ :: _, _, af1 => exact False.elim (by revert af1; unfold oRng1 opt; split <;> simp_all [AfI])
def enumD (ds : List D) : List D := ds.zipIdx.map fun (p : D × Nat) => PyData.tuple [.int (p.2 : Nat), p.1]
def zipD (xs ys : List D) : List D := (xs.zip ys).map fun (p : D × D) => PyData.tuple [p.1, p.2]
def oZip : List D → Option (List D)
  | [.list xs, .list ys] => some (zipD xs ys)
  | [.tuple xs, .tuple ys] => some (zipD xs ys)
  | _ => none
theorem zip_get {xs ys : List D} {i : Nat} {d : D} (e : (zipD xs ys)[i]? = some d) : ∃ x y, xs[i]? = some x ∧ ys[i]? = some y ∧ d = .tuple [x, y] := by
  unfold zipD at e
  rw [List.getElem?_map] at e
  cases q : (xs.zip ys)[i]? with
  | none => rw [q] at e; cases e
  | some p =>
    rw [q] at e
    cases e
    obtain ⟨h1, h2⟩ := List.getElem?_zip_eq_some.mp q
    exact ⟨p.1, p.2, h1, h2, rfl⟩
theorem iter_zip {K : PySem.W.Frag} {σ0 : St} {ρ0 : Rho} {Hf H0 : Hp} {p q : Addr} {vs ws : List V} {xs ys : List D} (h : Hf p = some (.lst vs)) (r : RepA Hf vs xs) (h' : Hf q = some (.lst ws)) (r' : RepA Hf ws ys) : IterOk σ0 ρ0 Hf H0 (Itz K p q) (zipD xs ys) := by
  intro i Hf1 H σ ρ nn
  have s1 := nn.sub
  have rp := nn.rp
  have hq : SqL K H p vs := SqL.of (rp.sub _ _ (s1 _ _ h))
  have hq' : SqL K H q ws := SqL.of (rp.sub _ _ (s1 _ _ h'))
  refine ⟨fun d e => ?_, fun hl => ⟨vs, ws, hq, hq', by rw [repA_len r, repA_len r']; simp only [zipD, List.length_map, List.length_zip] at hl; omega⟩⟩
  obtain ⟨x, y, e1, e2, rfl⟩ := zip_get e
  obtain ⟨v, f1, r1⟩ := repA_get r e1
  obtain ⟨w, f2, r2⟩ := repA_get r' e2
  refine ⟨⟨vs, ws, v, w, hq, hq', f1, f2⟩, fun z H' ⟨T, a, b, ex, hT, eh, hy, hz⟩ => ?_⟩
  subst ex eh
  have z1 := hy vs hq
  have z2 := hz ws hq'
  rw [f1] at z1
  rw [f2] at z2
  cases z1
  cases z2
  have sn := same_new (o := .tup [v, w]) (rp.sub.free hT)
  exact ⟨_, rp.new hT, .tup upd_same (.cons (rep_same sn (rep_same s1 r1)) (.cons (rep_same sn (rep_same s1 r2)) .nil))⟩
theorem iter_zipT {K : PySem.W.Frag} {σ0 : St} {ρ0 : Rho} {Hf H0 : Hp} {p q : Addr} {vs ws : List V} {xs ys : List D} (h : Hf p = some (.tup vs)) (r : RepA Hf vs xs) (h' : Hf q = some (.tup ws)) (r' : RepA Hf ws ys) : IterOk σ0 ρ0 Hf H0 (RZ.ItzT K p q) (zipD xs ys) := by
  intro i Hf1 H σ ρ nn
  have s1 := nn.sub
  have rp := nn.rp
  have hq : SqT K H p vs := SqT.of (rp.sub _ _ (s1 _ _ h))
  have hq' : SqT K H q ws := SqT.of (rp.sub _ _ (s1 _ _ h'))
  refine ⟨fun d e => ?_, fun hl => ⟨vs, ws, hq, hq', by rw [repA_len r, repA_len r']; simp only [zipD, List.length_map, List.length_zip] at hl; omega⟩⟩
  obtain ⟨x, y, e1, e2, rfl⟩ := zip_get e
  obtain ⟨v, f1, r1⟩ := repA_get r e1
  obtain ⟨w, f2, r2⟩ := repA_get r' e2
  refine ⟨⟨vs, ws, v, w, hq, hq', f1, f2⟩, fun z H' ⟨T, a, b, ex, hT, eh, hy, hz⟩ => ?_⟩
  subst ex eh
  have z1 := hy vs hq
  have z2 := hz ws hq'
  rw [f1] at z1
  rw [f2] at z2
  cases z1
  cases z2
  have sn := same_new (o := .tup [v, w]) (rp.sub.free hT)
  exact ⟨_, rp.new hT, .tup upd_same (.cons (rep_same sn (rep_same s1 r1)) (.cons (rep_same sn (rep_same s1 r2)) .nil))⟩
theorem fi_zip {e2 : Expr} {p tpos : Pos} {elts : List Expr} {kk : Nat} (hg : Gl X "zip") (hm : X.mg "zip" = none) (ha : PA X [e, e2] (tA G fs)) (hs : starEach [e, e2] X.env = (false, eval e X.env) :: starEach [e2] X.env := by rfl) (hpl : (backTo pos (starEach [e2] X.env)).any (·.1) = false := by rfl) :
    PI X (.Tuple elts kk tpos) (.Call (.Name "zip" p) [e, e2] [] pos) (tI G (fAB oZip fs)) := by
  refine (RZ.pi_zipA hg hm ha hs hpl).imp fun σ H R ⟨Hf, ρ, rp, af⟩ => ?_
  refine (stepI rp af).mono fun x H1 ⟨as, Hf1, ρ1, n1, ra, af1⟩ => ?_
  unfold oZip at af1
  split at af1
  · cases ra with
    | cons h1 h2 => cases h2 with
      | cons h3 h4 => cases h4; cases h1 with
        | lst h5 h6 => cases h3 with
          | lst h7 h8 => exact ⟨_, _, _, _, rfl, .inl ⟨SqL.of (n1.rp.sub _ _ h5), SqL.of (n1.rp.sub _ _ h7), finI n1.rp af1 (iter_zip h5 h6 h7 h8)⟩⟩
  · cases ra with
    | cons h1 h2 => cases h2 with
      | cons h3 h4 => cases h4; cases h1 with
        | tup h5 h6 => cases h3 with
          | tup h7 h8 => exact ⟨_, _, _, _, rfl, .inr ⟨SqT.of (n1.rp.sub _ _ h5), SqT.of (n1.rp.sub _ _ h7), finI n1.rp af1 (iter_zipT h5 h6 h7 h8)⟩⟩
  · exact False.elim af1
end
end Fx
namespace Fx
open PySem L2
variable [Tabz]
theorem Rp.put {Hf H : Hp} {σ : St} {ρ : Rho} (rp : Rp Hf H σ ρ) {i : Nat} {v : V} {d : D} (r : Rep Hf v d) : Nxt false σ ρ Hf H (σ.set i (some v)) (ρ.set i (.fz d)) Hf H := by
  refine rp.weak (by rw [List.length_set, List.length_set]; exact rp.len) fun j s h => ?_
  rw [List.getElem?_set] at h
  by_cases q : i = j
  · subst q
    rw [if_pos rfl] at h
    split at h
    · rename_i hl
      cases h
      refine .inr ⟨True.intro, ?_⟩
      rw [List.getElem?_set, if_pos rfl, if_pos (Nat.lt_of_lt_of_le hl rp.len)]
      exact slok_fz.mpr r
    · cases h
  · rw [if_neg q] at h
    exact .inl ⟨h, by rw [List.getElem?_set, if_neg q]⟩
theorem Rp.store {Hf H : Hp} {σ : St} {ρ : Rho} (rp : Rp Hf H σ ρ) {i : Nat} {v : V} {s' : Sl} (ok : SlOk Hf H (some (some v)) s') (nl : (∀ t, s' ≠ .lk t) ∧ ∀ k qs, s' ≠ .pa k qs) (fresh : ∀ a, OwnS H v s' a → ¬ OwnA H σ ρ a ∧ ¬ LkA H σ ρ a) (noal : (∃ t, s' = .tr t) → ∀ (j : Nat) (qs : List Nat), ρ[j]? ≠ some (.pa i qs)) :
    Rp Hf H (σ.set i (some v)) (ρ.set i s') ∧ (∀ a, OwnA H (σ.set i (some v)) (ρ.set i s') a → OwnA H σ ρ a ∨ OwnS H v s' a) ∧ ∀ a, LkA H (σ.set i (some v)) (ρ.set i s') a → LkA H σ ρ a := by
  have gi : ∀ s, (ρ.set i s')[i]? = some s → s = s' ∧ i < ρ.length := fun s h => by
    rw [List.getElem?_set, if_pos rfl] at h
    split at h
    · rename_i hl; exact ⟨(Option.some.inj h).symm, hl⟩
    · cases h
  have gv : i < ρ.length → (σ.set i (some v))[i]? = some (some v) := fun h => by rw [List.getElem?_set, if_pos rfl, if_pos (Nat.lt_of_lt_of_le h rp.len)]
  have gj : ∀ j, j ≠ i → (ρ.set i s')[j]? = ρ[j]? := fun j n => by rw [List.getElem?_set, if_neg fun z => n z.symm]
  have gw : ∀ j, j ≠ i → (σ.set i (some v))[j]? = σ[j]? := fun j n => by rw [List.getElem?_set, if_neg fun z => n z.symm]
  have oj : ∀ j a, j ≠ i → OwnI H (σ.set i (some v)) (ρ.set i s') j a → OwnI H σ ρ j a := fun j a n ⟨s, w, e1, e2, o⟩ => ⟨s, w, gj j n ▸ e1, gw j n ▸ e2, o⟩
  have oi : ∀ a, OwnI H (σ.set i (some v)) (ρ.set i s') i a → OwnS H v s' a := fun a ⟨s, w, e1, e2, o⟩ => by
    obtain ⟨rfl, hl⟩ := gi s e1
    rw [gv hl] at e2; cases e2
    exact o
  have oa : ∀ a, OwnA H (σ.set i (some v)) (ρ.set i s') a → OwnA H σ ρ a ∨ OwnS H v s' a := fun a ⟨j, z⟩ => by
    by_cases n : j = i
    · subst n; exact .inr (oi a z)
    · exact .inl ⟨j, oj j a n z⟩
  have lkk : ∀ a, LkA H (σ.set i (some v)) (ρ.set i s') a → LkA H σ ρ a := fun a ⟨j, t, w, Hf0, F, e1, e2, z, m⟩ => by
    have n : j ≠ i := fun y => by
      subst y
      obtain ⟨e, _⟩ := gi _ e1
      exact nl.1 t e.symm
    exact ⟨j, t, w, Hf0, F, gj j n ▸ e1, gw j n ▸ e2, z, m⟩
  refine ⟨⟨rp.sub, rp.tb, rp.nt, by rw [List.length_set, List.length_set]; exact rp.len, fun j s h => ?_, fun j k a h1 h2 => ?_, fun a ha h2 => ?_, fun j k qs t h1 h2 => ?_⟩, oa, lkk⟩
  · by_cases n : j = i
    · subst n
      obtain ⟨rfl, hl⟩ := gi s h
      rw [gv hl]; exact ok
    · rw [gj j n] at h; rw [gw j n]; exact rp.sl j s h
  · by_cases n : j = i
    · subst n
      by_cases n' : k = j
      · exact n'.symm
      · exact absurd ⟨k, oj k a n' h2⟩ (fresh a (oi a h1)).1
    · by_cases n' : k = i
      · subst n'
        exact absurd ⟨j, oj j a n h1⟩ (fresh a (oi a h2)).1
      · exact rp.nd j k a (oj j a n h1) (oj k a n' h2)
  · have la := lkk a ha
    rcases oa a h2 with y | y
    · exact rp.lk a la y
    · exact (fresh a y).2 la
  · have n : j ≠ i := fun y => by
      subst y
      obtain ⟨e, _⟩ := gi _ h1
      exact nl.2 k qs e.symm
    rw [gj j n] at h1
    by_cases n' : k = i
    · subst n'
      have : ∃ t, s' = .tr t := by
        rcases h2 with e | e
        · obtain ⟨e, _⟩ := gi _ e; exact ⟨t, e.symm⟩
        · obtain ⟨e, _⟩ := gi _ e; exact absurd e.symm (nl.1 t)
      exact absurd h1 (noal this j qs)
    · have h2' : isTr ρ k t := h2.imp (fun e => gj k n' ▸ e) (fun e => gj k n' ▸ e)
      obtain ⟨x, y, s, g1, g2, g3⟩ := rp.al j k qs t h1 h2'
      exact ⟨x, y, s, (gw k n').trans g1, (gw j n).trans g2, g3⟩
theorem Nxt.putO {q : Bool} {Hf0 H0 Hf H : Hp} {σ0 σ : St} {ρ0 ρ : Rho} (n : Nxt q σ0 ρ0 Hf0 H0 σ ρ Hf H) {i : Nat} {p : Addr} {vs : List V} {ds : List D} (h0 : Fre H0 σ0 ρ0 p) (hp : Hf p = none) (no : ¬ OwnA H σ ρ p) (nk : ¬ LkA H0 σ0 ρ0 p) (h : H p = some (.lst vs)) (r : RepA Hf vs ds) :
    Nxt false σ0 ρ0 Hf0 H0 (σ.set i (some (.ref p))) (ρ.set i (.ow ds)) Hf H := by
  obtain ⟨r2, oa, lk2⟩ := n.rp.store (i := i) (v := .ref p) (s' := .ow ds) ⟨hp, vs, h, r⟩ ⟨(fun _ z => nomatch z), (fun _ _ z => nomatch z)⟩ (fun a z => by cases (show V.ref p = .ref a from z); exact ⟨no, fun y => nk (n.ls _ y)⟩) (fun ⟨_, z⟩ => nomatch z)
  refine ⟨n.sub, n.keep, fun a z => (oa a z).elim (n.os a) fun y => ?_, fun a z => n.ls a (lk2 a z), n.dom, n.fr, (fun z => nomatch z), r2⟩
  cases (show V.ref p = .ref a from y)
  exact h0.symm
theorem Rp.mut {q : Bool} {Hf H : Hp} {σ : St} {ρ : Rho} (rp : Rp Hf H σ ρ) {i : Nat} {p : Addr} {ds es : List D} {ws : List V} (hi : ρ[i]? = some (.ow ds)) (hp : σ[i]? = some (some (.ref p))) (r : RepA Hf ws es) :
    Nxt q σ ρ Hf H σ (ρ.set i (.ow es)) Hf (upd H p (.lst ws)) := by
  obtain ⟨p', vs0, e0, hf, hv0, _⟩ := slok_ow (rp.sl i _ hi)
  rw [hp] at e0; cases e0
  refine rp.chgO hi hp (.inr ⟨es, rfl⟩) (Same.refl _) (fun a o h => ?_) (rp.tb.set hv0) rp.nt (fun a o h _ n => by rw [upd_ne n]; exact h) (fun a h => ?_) (fun _ h => .inl h) ⟨hf, ws, upd_same, r⟩
  · rw [upd_ne (ne_of_none h hf)]
    exact rp.sub _ _ h
  · by_cases q : a = p
    · subst q
      rw [upd_same] at h
      cases h
    · rw [upd_ne q] at h
      exact h
section
variable {X : Cx} {G : Gx} {e a b : Expr} {es : List Expr} {f g : M D} {fs : M (List D)} {pos : Pos} {tg : Expr}
def Only (is : List Nat) (σ σ' : St) : Prop := σ'.length = σ.length ∧ ∀ j, j ∉ is → σ'[j]? = σ[j]?
theorem Only.refl (is : List Nat) (σ : St) : Only is σ σ := ⟨rfl, fun _ _ => rfl⟩
theorem Only.trans {is js : List Nat} {σ σ1 σ2 : St} (h : Only is σ σ1) (h' : Only js σ1 σ2) : Only (is ++ js) σ σ2 :=
  ⟨h'.1.trans h.1, fun j n => (h'.2 j fun z => n (List.mem_append_right _ z)).trans (h.2 j fun z => n (List.mem_append_left _ z))⟩
def tGt (is : List Nat) (g : D → Rho → Option Rho) : TG := fun v σ H Q => ∃ Hf ρ d ρ', Rp Hf H σ ρ ∧ Rep Hf v d ∧ g d ρ = some ρ' ∧ ∀ σ', Nxt false σ ρ Hf H σ' ρ' Hf H → Only is σ σ' → Q σ' H
def tGts (is : List Nat) (g : List D → Rho → Option Rho) : TGs := fun vs σ H Q => ∃ Hf ρ ds ρ', Rp Hf H σ ρ ∧ RepA Hf vs ds ∧ g ds ρ = some ρ' ∧ ∀ σ', Nxt false σ ρ Hf H σ' ρ' Hf H → Only is σ σ' → Q σ' H
theorem _root_.L2.PG.imp {t t' : TG} (h : PG X tg t) (i : ∀ v σ H Q, t' v σ H Q → t v σ H Q) : PG X tg t' := ⟨fun pins s σ H v u Q I r q => h.run pins s σ H v u Q I r (i _ _ _ _ q)⟩
theorem _root_.L2.PGs.imp {ts : List Expr} {t t' : TGs} (h : PGs X ts t) (i : ∀ v σ H Q, t' v σ H Q → t v σ H Q) : PGs X ts t' := ⟨fun pins s σ H v u Q I r q => h.run pins s σ H v u Q I r (i _ _ _ _ q)⟩
@[simp] def gSet (i : Nat) : D → Rho → Option Rho := fun d ρ => some (ρ.set i (.fz d))
theorem fg_name (i : Nat) {x : Str} (hN : X.N.Nodup) (hi : X.N[i]? = some x := by rfl) (hx : Loc X.env.scope x := by first | exact Or.inl rfl | exact Or.inr rfl) (hf : X.fn x = true ∨ X.env.scope.names.lookup x = some .local := by first | exact .inl rfl | exact .inr rfl) : PG X (.Name x pos) (tGt [i] (gSet i)) := by
  refine (pg_name hN hi hx hf).imp fun v σ H Q ⟨Hf, ρ, d, ρ', rp, r, eg, k⟩ => ?_
  cases eg
  refine k _ (rp.put r) ⟨List.length_set, fun j n => ?_⟩
  rw [List.getElem?_set, if_neg fun z => n (by rw [z]; exact List.mem_singleton.mpr rfl)]
@[simp] def gsNil : List D → Rho → Option Rho
  | [], ρ => some ρ
  | _, _ => none
@[simp] def gsCons (g : D → Rho → Option Rho) (gs : List D → Rho → Option Rho) : List D → Rho → Option Rho
  | d :: ds, ρ => (g d ρ).bind (gs ds)
  | [], _ => none
theorem fgs_nil : PGs X [] (tGts [] gsNil) := by
  refine pgs_nil.imp fun vs σ H Q ⟨Hf, ρ, ds, ρ', rp, r, eg, k⟩ => ?_
  cases r with
  | nil => cases eg; exact ⟨rfl, k _ (.refl rp) (.refl _ _)⟩
  | cons _ _ => cases eg
theorem fgs_cons {is js : List Nat} {g1 : D → Rho → Option Rho} {gs : List D → Rho → Option Rho} (h1 : PG X e (tGt is g1)) (h2 : PGs X es (tGts js gs)) (hs : (assignEach (e :: es) X.env).map (·.2) = assign e X.env :: (assignEach es X.env).map (·.2) := by rfl) : PGs X (e :: es) (tGts (is ++ js) (gsCons g1 gs)) := by
  refine (pgs_cons h1 h2 hs).imp fun vs σ H Q ⟨Hf, ρ, ds, ρ', rp, r, eg, k⟩ => ?_
  cases r with
  | nil => cases eg
  | @cons v vs d ds hv hr =>
    cases e1 : g1 d ρ with
    | none => simp only [gsCons, e1, Option.bind_none, reduceCtorEq] at eg
    | some ρ1 =>
      simp only [gsCons, e1, Option.bind_some] at eg
      exact ⟨_, _, rfl, Hf, ρ, _, ρ1, rp, hv, e1, fun σ1 n1 o1 => ⟨Hf, ρ1, ds, ρ', n1.rp, hr, eg, fun σ2 n2 o2 => k σ2 (n1.trans n2) (o1.trans o2)⟩⟩
@[simp] def gTp (gs : List D → Rho → Option Rho) : D → Rho → Option Rho
  | .tuple ds, ρ => gs ds ρ
  | _, _ => none
theorem gs_len {n : Nat} {gs : List D → Rho → Option Rho} (hn : ∀ ds ρ ρ', gs ds ρ = some ρ' → ds.length = n) {g1 : D → Rho → Option Rho} : ∀ ds ρ ρ', gsCons g1 gs ds ρ = some ρ' → ds.length = n + 1 := by
  intro ds ρ ρ' e
  cases ds with
  | nil => cases e
  | cons d ds =>
    cases e1 : g1 d ρ with
    | none => simp only [gsCons, e1, Option.bind_none, reduceCtorEq] at e
    | some ρ1 =>
      simp only [gsCons, e1, Option.bind_some] at e
      rw [List.length_cons, hn ds ρ1 ρ' e]
theorem gs_len0 : ∀ ds ρ ρ', gsNil ds ρ = some ρ' → ds.length = 0 := by
  intro ds ρ ρ' e
  cases ds with
  | nil => rfl
  | cons _ _ => cases e
theorem fg_tup {k : Nat} {is : List Nat} {gs : List D → Rho → Option Rho} {n : Nat} (hc : X.calm = true) (h : PGs X es (tGts is gs)) (hl : ∀ ds ρ ρ', gs ds ρ = some ρ' → ds.length = n) (hn : (assignEach es X.env).length = n := by rfl) (hst : (assignEach es X.env).findIdx? (·.1) = none := by rfl) : PG X (.Tuple es k pos) (tGt is (gTp gs)) := by
  refine (pg_tup hc h hn hst).imp fun v σ H Q ⟨Hf, ρ, d, ρ', rp, r, eg, k⟩ => ?_
  cases r with
  | @tup a vs ds h1 h2 => exact ⟨_, _, rfl, SqT.of (rp.sub _ _ h1), by rw [repA_len h2]; exact hl _ _ _ eg, Hf, ρ, _, ρ', rp, h2, eg, k⟩
  | lst _ _ => cases eg
  | non => cases eg
  | ins _ _ _ => cases eg
  | dct _ _ _ => cases eg
  | bl _ => cases eg
  | int _ => cases eg
  | str _ => cases eg
def wipeR (ρ : Rho) : List Nat → Rho
  | [] => ρ
  | v :: vs => (wipeR ρ vs).set v .un
theorem wipe_get (σ : St) (j : Nat) : ∀ vs : List Nat, (wipe σ vs)[j]? = if j ∈ vs then (if j < σ.length then some none else none) else σ[j]?
  | [] => by simp [wipe]
  | v :: vs => by
    unfold wipe
    rw [List.getElem?_set, wipe_length, wipe_get σ j vs]
    by_cases h : v = j
    · subst h
      simp
    · have : ¬ j = v := fun z => h z.symm
      simp [h, this]
theorem wipeR_len (ρ : Rho) : ∀ vs : List Nat, (wipeR ρ vs).length = ρ.length
  | [] => rfl
  | v :: vs => by unfold wipeR; rw [List.length_set, wipeR_len]
theorem wipeR_get (ρ : Rho) (j : Nat) : ∀ vs : List Nat, (wipeR ρ vs)[j]? = if j ∈ vs then (if j < ρ.length then some .un else none) else ρ[j]?
  | [] => by simp [wipeR]
  | v :: vs => by
    unfold wipeR
    rw [List.getElem?_set, wipeR_len, wipeR_get ρ j vs]
    by_cases h : v = j
    · subst h
      simp
    · have : ¬ j = v := fun z => h z.symm
      simp [h, this]
theorem Rp.wipe {Hf H : Hp} {σ : St} {ρ : Rho} (rp : Rp Hf H σ ρ) (vs : List Nat) : Nxt false σ ρ Hf H (wipe σ vs) (wipeR ρ vs) Hf H := by
  refine rp.weak (by rw [wipeR_len, wipe_length]; exact rp.len) fun j s h => ?_
  rw [wipeR_get] at h
  rw [wipe_get]
  by_cases q : j ∈ vs
  · rw [if_pos q] at h ⊢
    split at h
    · cases h; exact .inr ⟨True.intro, slok_un⟩
    · cases h
  · rw [if_neg q] at h ⊢
    exact .inl ⟨h, rfl⟩
theorem Only.wipe {is vs : List Nat} {σ σ' : St} (h : Only is σ σ') (hs : ∀ i ∈ is, i ∈ vs) : L2.wipe σ' vs = L2.wipe σ vs := by
  apply List.ext_getElem?
  intro j
  rw [wipe_get, wipe_get, h.1]
  by_cases q : j ∈ vs
  · rw [if_pos q, if_pos q]
  · rw [if_neg q, if_neg q]
    exact h.2 j fun z => q (hs j z)
theorem wipe_wipe (σ : St) (vs : List Nat) : L2.wipe (L2.wipe σ vs) vs = L2.wipe σ vs := by
  apply List.ext_getElem?
  intro j
  rw [wipe_get, wipe_get, wipe_length]
  by_cases q : j ∈ vs
  · rw [if_pos q, if_pos q]
  · rw [if_neg q, if_neg q]
def keepFz : Option Sl → Sl
  | some (.fz d) => .fz d
  | _ => .un
def rest (ρ2 ρ1 : Rho) : List Nat → Rho
  | [] => ρ2
  | v :: vs => (rest ρ2 ρ1 vs).set v (keepFz ρ1[v]?)
theorem rest_len (ρ2 ρ1 : Rho) : ∀ vs : List Nat, (rest ρ2 ρ1 vs).length = ρ2.length
  | [] => rfl
  | v :: vs => by unfold rest; rw [List.length_set, rest_len]
theorem rest_get (ρ2 ρ1 : Rho) (j : Nat) : ∀ vs : List Nat, (rest ρ2 ρ1 vs)[j]? = if j ∈ vs then (if j < ρ2.length then some (keepFz ρ1[j]?) else none) else ρ2[j]?
  | [] => by simp [rest]
  | v :: vs => by
    unfold rest
    rw [List.getElem?_set, rest_len, rest_get ρ2 ρ1 j vs]
    by_cases h : v = j
    · subst h
      simp
    · have : ¬ j = v := fun z => h z.symm
      simp [h, this]
theorem rest_weak {Hf1 H1 Hf H : Hp} {σ : St} {ρ1 ρ2 : Rho} {vs : List Nat} (rp : Rp Hf1 H1 σ ρ1) (sm : Same Hf1 Hf) (r : Rp Hf H (L2.wipe σ vs) (wipeR ρ2 vs)) : Nxt false (L2.wipe σ vs) (wipeR ρ2 vs) Hf H σ (rest ρ2 ρ1 vs) Hf H := by
  refine r.weak ?_ fun j s h => ?_
  · have := r.len
    rw [wipeR_len, wipe_length] at this
    rw [rest_len]
    exact this
  · rw [rest_get] at h
    by_cases q : j ∈ vs
    · rw [if_pos q] at h
      split at h
      · cases h
        refine .inr ?_
        cases e : ρ1[j]? with
        | none => exact ⟨True.intro, slok_un⟩
        | some s =>
          cases s with
          | un => exact ⟨True.intro, slok_un⟩
          | raw _ => exact ⟨True.intro, slok_un⟩
          | ow _ => exact ⟨True.intro, slok_un⟩
          | tr _ => exact ⟨True.intro, slok_un⟩
          | lk _ => exact ⟨True.intro, slok_un⟩
          | pa _ _ => exact ⟨True.intro, slok_un⟩
          | fz d =>
            obtain ⟨v, h1, h2⟩ := slok_fz' (rp.sl j _ e)
            rw [h1]
            exact ⟨True.intro, slok_fz.mpr (rep_same sm h2)⟩
      · cases h
    · rw [if_neg q] at h
      exact .inl ⟨by rw [wipeR_get, if_neg q]; exact h, by rw [wipe_get, if_neg q]⟩
theorem Nxt.rest {Hf1 H1 Hf H : Hp} {σ : St} {ρ1 ρ2 : Rho} {vs : List Nat} (rp : Rp Hf1 H1 σ ρ1) (n : Nxt false (L2.wipe σ vs) (wipeR ρ1 vs) Hf1 H1 (L2.wipe σ vs) (wipeR ρ2 vs) Hf H) : Nxt false σ ρ1 Hf1 H1 σ (rest ρ2 ρ1 vs) Hf H :=
  (rp.wipe vs).trans (n.trans (rest_weak rp n.sub n.rp))
end
end Fx
namespace Fx
open PySem L2
variable [Tabz]
section
variable {X : Cx} {G : Gx} {e a b : Expr} {es : List Expr} {f g : M D} {fs : M (List D)} {pos : Pos} {tg : Expr}
def lcE (g : D → Rho → Option Rho) (tt : M Bool) (fe : M D) (vs : List Nat) : List D → Rho → Res (List D)
  | [], ρ => .ok ([], ρ)
  | d :: ds, ρ => match g d (wipeR ρ vs) with
    | none => .bad
    | some ρ1 => match tt ρ1 with
      | .ok (true, ρ2) => (match fe ρ2 with
        | .ok (x, ρ3) => (match lcE g tt fe vs ds ρ3 with
          | .ok (xs, ρ4) => .ok (x :: xs, ρ4)
          | _ => .bad)
        | _ => .bad)
      | .ok (false, ρ2) => lcE g tt fe vs ds ρ2
      | _ => .bad
def fLc (fi : M (List D)) (g : D → Rho → Option Rho) (tt : M Bool) (fe : M D) (vs : List Nat) : M (List D) := bnd fi fun ds ρ1 => if small ds.length then (match lcE g tt fe vs ds ρ1 with
    | .ok (xs, ρ2) => .ok (xs, rest ρ2 ρ1 vs)
    | _ => .bad) else .bad
abbrev G0 (G : Gx) : Gx := ⟨fun _ _ _ _ => False, G.cA, false⟩
theorem Nxt.notLk {q : Bool} {Hf0 H0 Hf H : Hp} {σ0 σ : St} {ρ0 ρ : Rho} (n : Nxt q σ0 ρ0 Hf0 H0 σ ρ Hf H) {p : Addr} (h0 : H0 p = none) : ¬ LkA H σ ρ p := fun z => by
  obtain ⟨_, _, _, _, _, _, _, r, m⟩ := n.ls p z
  obtain ⟨o, ho, _⟩ := r.obj p m
  rw [h0] at ho; cases ho
theorem Nxt.updNew {Hf0 H0 Hf H : Hp} {σ0 σ : St} {ρ0 ρ : Rho} (n : Nxt false σ0 ρ0 Hf0 H0 σ ρ Hf H) {p : Addr} {vs ws : List V} (hv : H p = some (.lst vs)) (h0 : H0 p = none) (hp : Hf p = none) (no : ¬ OwnA H σ ρ p) : Nxt false σ0 ρ0 Hf0 H0 σ ρ Hf (upd H p (.lst ws)) ∧ ¬ OwnA (upd H p (.lst ws)) σ ρ p := by
  have ko : ∀ a, OwnA H σ ρ a → upd H p (.lst ws) a = H a := fun a z => upd_ne fun (q : a = p) => no (by rw [← q]; exact z)
  have kl : ∀ a, LkA H σ ρ a → upd H p (.lst ws) a = H a := fun a z => upd_ne fun (q : a = p) => n.notLk h0 (by rw [← q]; exact z)
  have oa : ∀ a, OwnA (upd H p (.lst ws)) σ ρ a → OwnA H σ ρ a := fun a ⟨i, z⟩ => ⟨i, (n.rp.ownI_iff (fun b y => ko b ⟨i, y⟩) a).mp z⟩
  refine ⟨⟨n.sub, fun a x h t nn => ?_, fun a z => n.os a (oa a z), fun a z => n.ls a (n.rp.lka_of kl z), fun a h => ?_, n.fr, (fun z => nomatch z), n.rp.grow (Same.refl _) (fun a x h => ?_) (n.rp.tb.set hv) n.rp.nt (fun a z => ⟨(n.rp.own z).1, ko a z⟩) kl⟩, fun z => no (oa p z)⟩
  · rw [upd_ne (ne_of_none h h0)]
    exact n.keep a x h t nn
  · by_cases q : a = p
    · exact q ▸ h0
    · rw [upd_ne q] at h
      exact n.dom a h
  · rw [upd_ne (ne_of_none h hp)]
    exact n.rp.sub _ _ h
theorem stepLI {σ : St} {ρ : Rho} {Hf H : Hp} {Q : VK} {g k : M (List D)} {kk : List D → M (List D)} (rp : Rp Hf H σ ρ) (af : AfL G σ ρ Hf H Q (bnd g kk ρ)) :
    tI G g σ H fun y H1 => ∃ b Hf1 ρ1, Nxt G.q σ ρ Hf H σ ρ1 Hf1 H1 ∧ IterOk σ ρ1 Hf1 H1 y b ∧ AfL G σ ρ1 Hf1 H1 Q (kk b ρ1) := by
  refine ⟨Hf, ρ, rp, ?_⟩
  unfold bnd at af
  cases e : g ρ with
  | ok p =>
    obtain ⟨b, ρ1⟩ := p
    rw [e] at af
    exact fun x Hf1 H1 n r => ⟨b, Hf1, ρ1, n, r, af.later n⟩
  | exc c ρ1 => rw [e] at af; exact af
  | bad => rw [e] at af; exact af
theorem lc_run {fi : M (List D)} {is vs : List Nat} {g : D → Rho → Option Rho} {tt : M Bool} {fe : M D} (hgq : G.q = false) (hs : ∀ i ∈ is, i ∈ vs) (σ : St) (H : Hp) (Q : VK) (h : tL G (fLc fi g tt fe vs) σ H Q) :
    tLc (tI G fi) (tGt is g) (tT (G0 G) tt) (tE (G0 G) fe) vs σ H Q := by
  obtain ⟨Hf, ρ, rp, af⟩ := h
  refine (stepLI (k := fi) rp af).mono fun J H1 ⟨ds, Hf1, ρ1, n1, hJ, af1⟩ => ?_
  intro D0 hD
  cases hsm : small ds.length with
  | false => simp only [hsm] at af1; exact False.elim af1
  | true =>
    simp only [hsm, if_true] at af1
    cases er : lcE g tt fe vs ds ρ1 with
    | exc c _ => rw [er] at af1; exact False.elim af1
    | bad => rw [er] at af1; exact False.elim af1
    | ok x =>
      obtain ⟨xs, ρ2⟩ := x
      rw [er] at af1
      have rp1 := n1.rp
      have hDf : Hf1 D0 = none := rp1.sub.free hD
      have w1 := rp1.wipe vs
      have noD : ¬ OwnA (upd H1 D0 (.lst [])) (L2.wipe σ vs) (wipeR ρ1 vs) D0 := w1.rp.notOwnU hD
      refine ⟨fun i m Hc => m = ds.length - i ∧ i ≤ ds.length ∧ ∃ Hfc ρc acc accv ys, Nxt false (L2.wipe σ vs) (wipeR ρ1 vs) Hf1 H1 (L2.wipe σ vs) (wipeR ρc vs) Hfc Hc ∧ Hc D0 = some (.lst accv) ∧ Hfc D0 = none ∧ ¬ OwnA Hc (L2.wipe σ vs) (wipeR ρc vs) D0 ∧
          RepA Hfc accv acc ∧ acc.length ≤ i ∧ lcE g tt fe vs (ds.drop i) ρc = .ok (ys, ρ2) ∧ acc ++ ys = xs,
        ⟨ds.length, by simp, Nat.zero_le _, Hf1, ρ1, [], [], xs, w1.rp.newO hD, upd_same, hDf, noD, .nil, Nat.le_refl _, er, rfl⟩, ?_⟩
      rintro i m Hc ⟨rfl, hi, Hfc, ρc, acc, accv, ys, n, eD, fD, oD, ra, hl, el, ex⟩
      have it := hJ i Hfc Hc (L2.wipe σ vs) (wipeR ρc vs) (w1.trans n)
      by_cases hlt : i < ds.length
      · have ed : ds[i]? = some ds[i] := List.getElem?_eq_getElem hlt
        have edr : ds.drop i = ds[i] :: ds.drop (i + 1) := List.drop_eq_getElem_cons hlt
        obtain ⟨hgo, hy⟩ := it.1 _ ed
        rw [edr] at el
        unfold lcE at el
        refine .inr ⟨hgo, fun H' => ∃ Hfc ρc acc accv ys, Nxt false (L2.wipe σ vs) (wipeR ρ1 vs) Hf1 H1 (L2.wipe σ vs) (wipeR ρc vs) Hfc H' ∧ H' D0 = some (.lst accv) ∧ Hfc D0 = none ∧ ¬ OwnA H' (L2.wipe σ vs) (wipeR ρc vs) D0 ∧
          RepA Hfc accv acc ∧ acc.length ≤ i + 1 ∧ lcE g tt fe vs (ds.drop (i + 1)) ρc = .ok (ys, ρ2) ∧ acc ++ ys = xs, fun H' q => ⟨ds.length - (i + 1), by omega, rfl, hlt, q⟩, fun x H' yx => ?_⟩
        obtain ⟨Hfy, ny, ry⟩ := hy x H' yx
        -- facts on D0 through a step
        have carry : ∀ {σ2 : St} {ρ2' : Rho} {Hf2 H2 : Hp}, Nxt false (L2.wipe σ vs) (wipeR ρc vs) Hfc Hc σ2 ρ2' Hf2 H2 → H2 D0 = some (.lst accv) ∧ Hf2 D0 = none ∧ ¬ OwnA H2 σ2 ρ2' D0 := fun nn => by
          refine ⟨nn.keep _ _ eD NT.lst oD, (nn.fr D0 fD).elim id fun q => q.elim (fun z => ?_) fun z => absurd z oD, fun z => (nn.os D0 z).elim oD fun w => ?_⟩
          · rw [eD] at z; cases z
          · rw [eD] at w; cases w
        cases eg : g ds[i] (wipeR ρc vs) with
        | none => simp only [eg, reduceCtorEq] at el
        | some ρg =>
          simp only [eg] at el
          refine ⟨Hfy, wipeR ρc vs, _, ρg, ny.rp, ry, eg, fun σ2 n2 o2 => ⟨?_, ?_⟩⟩
          · rw [o2.wipe hs, wipe_wipe]
          · have n3 := (Nxt.any ny).trans n2
            have ew : L2.wipe σ2 vs = L2.wipe σ vs := by rw [o2.wipe hs, wipe_wipe]
            refine ⟨Hfy, ρg, n3.rp, ?_⟩
            cases et : tt ρg with
            | exc c _ => simp only [et, reduceCtorEq] at el
            | bad => simp only [et, reduceCtorEq] at el
            | ok z =>
              obtain ⟨bt, ρt⟩ := z
              simp only [et] at el
              intro bb Hf4 H4 n4 eb
              subst eb
              have n5 := n3.trans n4
              cases bb with
              | false =>
                dsimp only at el
                have n6 := n5.trans (n5.rp.wipe vs)
                rw [ew] at n6
                obtain ⟨c1, c2, c3⟩ := carry n6
                exact ⟨Hf4, ρt, acc, accv, ys, n.trans n6, c1, c2, c3, repA_same n6.sub ra, by omega, el, ex⟩
              | true =>
                dsimp only at el
                refine ⟨Hf4, ρt, n5.rp, ?_⟩
                cases ee : fe ρt with
                | exc c _ => simp only [ee, reduceCtorEq] at el
                | bad => simp only [ee, reduceCtorEq] at el
                | ok z2 =>
                  obtain ⟨y, ρe⟩ := z2
                  simp only [ee] at el
                  intro v Hf7 H7 n7 rv
                  have n8 := n5.trans n7
                  obtain ⟨c1, c2, c3⟩ := carry n8
                  have n9 := n8.trans (n8.rp.wipe vs)
                  rw [ew] at n9
                  obtain ⟨d1, d2, d3⟩ := carry n9
                  refine ⟨accv, c1, ?_, ?_⟩
                  · rw [repA_len ra]
                    exact Nat.lt_of_le_of_lt hl (Nat.lt_trans hlt (small_lt hsm))
                  · cases e5 : lcE g tt fe vs (ds.drop (i + 1)) ρe with
                    | exc c _ => simp only [e5, reduceCtorEq] at el
                    | bad => simp only [e5, reduceCtorEq] at el
                    | ok z3 =>
                      obtain ⟨ys2, ρ5⟩ := z3
                      simp only [e5, Res.ok.injEq, Prod.mk.injEq] at el
                      obtain ⟨e6, e7⟩ := el
                      subst e6 e7
                      refine ⟨Hf7, ρe, acc ++ [y], accv ++ [v], ys2, ((n.trans n9).updNew d1 hD d2 d3).1, upd_same, d2, ((n.trans n9).updNew d1 hD d2 d3).2, repA_append (repA_same n9.sub ra) (.cons rv .nil), ?_, e5, ?_⟩
                      · rw [List.length_append, List.length_singleton]; omega
                      · rw [List.append_assoc]; exact ex
      · have ei : i = ds.length := by omega
        subst ei
        rw [List.drop_length] at el
        unfold lcE at el
        cases el
        rw [List.append_nil] at ex
        subst ex
        refine .inl ⟨it.2 (Nat.le_refl _), ?_⟩
        have nr := Nxt.rest rp1 n
        rw [← hgq] at nr
        refine af1 D0 accv Hfc Hc nr (.inl hD) fD (fun z => ?_) eD ra
        exact ((rest_weak rp1 n.sub n.rp).os D0 z).elim oD fun y => by rw [eD] at y; cases y
theorem fts_nil : PTs X [] (tT G (ret true)) := ⟨fun pins s σ H Q I ⟨Hf, ρ, rp, af⟩ => pts_nil.run pins s σ H Q I (fin rp af rfl)⟩
theorem fts_one {c : Expr} {p : M Bool} (h : PT X c (tT G p)) : PTs X [c] (tT G p) := pts_one h
theorem fl_lc {elt iter : Expr} {ifs : List Expr} {scope : Scope} {own : List (Str × Nat)} {fi : M (List D)} {is : List Nat} {g : D → Rho → Option Rho} {tt : M Bool} {fe : M D} (hc : X.calm = true) (hN : X.N.Nodup) (ok : BlkOk X.N X.env.scope scope own) (his : ∀ i ∈ is, i ∈ own.map (·.2)) (hi : PI X tg iter (tI G fi))
    (hg : ∀ (s : Shared) (H : Hp) (C : Addr) (cl : List (Str × Addr)) (fp : List Addr), PG (X.blk s H scope (compEnvC scope cl C X.env) fp) tg (tGt is g)) (ht : ∀ (s : Shared) (H : Hp) (C : Addr) (cl : List (Str × Addr)) (fp : List Addr), PTs (X.blk s H scope (compEnvC scope cl C X.env) fp) ifs (tT (G0 G) tt))
    (he : ∀ (s : Shared) (H : Hp) (C : Addr) (cl : List (Str × Addr)) (fp : List Addr), PE (X.blk s H scope (compEnvC scope cl C X.env) fp) elt (tE (G0 G) fe)) (hs : ∀ x, foldedSetIterable iter X.env x = pure x := by intro _; rfl) (hgq : G.q = false := by rfl) :
    PE X (.ListComp elt [⟨tg, iter, ifs, 0⟩] scope pos) (tL G (fLc fi g tt fe (own.map (·.2)))) := (pe_lc hc hN hi ok hg ht he hs).imp (lc_run hgq his)
end
end Fx
namespace Fx
open PySem L2
variable [Tabz]
inductive Rt where
  | fz (d : D)
  | ow (ds : List D)
  | tr (t : Tr)
inductive Fl where
  | nx (ρ : Rho)
  | ret (r : Rt) (ρ : Rho)
  | brk (ρ : Rho)
  | ct (ρ : Rho)
  | exc (c : Str) (ρ : Rho)
  | bad
def RtOk (pn : List Nat) (σ : St) (ρ : Rho) (H : Hp) (σ' : St) (ρ' : Rho) (Hf' H' : Hp) (v : V) : Rt → Prop
  | .fz d => Rep Hf' v d
  | .ow ds => ∃ p vs, v = .ref p ∧ Fre H σ ρ p ∧ Hf' p = none ∧ ¬ OwnA H' σ' ρ' p ∧ H' p = some (.lst vs) ∧ RepA Hf' vs ds
  | .tr t => ∃ F, TR Hf' H' v t F ∧ F.Nodup ∧ ∀ a ∈ F, Fre H σ ρ a ∧ Hf' a = none ∧ ¬ OwnA H' σ' ρ' a
def Pin (pn : List Nat) (σ σ' : St) : Prop := ∀ j ∈ pn, σ'[j]? = σ[j]?
theorem Pin.refl (pn : List Nat) (σ : St) : Pin pn σ σ := fun _ _ => rfl
theorem Pin.trans {pn : List Nat} {σ σ1 σ2 : St} (h : Pin pn σ σ1) (h' : Pin pn σ1 σ2) : Pin pn σ σ2 := fun j z => (h' j z).trans (h j z)
def AfS (G : Gx) (pn : List Nat) (σ : St) (ρ : Rho) (Hf H : Hp) (D : Ends) : Fl → Prop
  | .nx ρ' => ∀ σ' Hf' H', Nxt false σ ρ Hf H σ' ρ' Hf' H' → Pin pn σ σ' → D.nx σ' H'
  | .brk ρ' => ∀ σ' Hf' H', Nxt false σ ρ Hf H σ' ρ' Hf' H' → Pin pn σ σ' → D.bk σ' H'
  | .ct ρ' => ∀ σ' Hf' H', Nxt false σ ρ Hf H σ' ρ' Hf' H' → Pin pn σ σ' → D.ct σ' H'
  | .ret r ρ' => ∀ v σ' Hf' H', Nxt false σ ρ Hf H σ' ρ' Hf' H' → Pin pn σ σ' → RtOk pn σ ρ H σ' ρ' Hf' H' v r → D.rt v H'
  | .exc c ρ' => ∀ σ' Hf' H', Nxt false σ ρ Hf H σ' ρ' Hf' H' → Pin pn σ σ' → G.W (.ref (G.cA c)) none σ' H'
  | .bad => False
def tS (G : Gx) (pn : List Nat) (g : Rho → Fl) : TS := fun D σ H => ∃ Hf ρ, Rp Hf H σ ρ ∧ AfS G pn σ ρ Hf H D (g ρ)
section
variable {G : Gx} {pn : List Nat} {σ σ1 : St} {ρ ρ1 : Rho} {Hf H Hf1 H1 : Hp} {D : Ends}
theorem Keep.later {q : Bool} (n : Nxt q σ ρ Hf H σ1 ρ1 Hf1 H1) {H' : Hp} (k : Keep σ1 ρ1 H1 H') : Keep σ ρ H H' := fun x o h t nn => k x o (n.keep x o h t nn) t fun z => (n.os x z).elim nn fun w => by rw [h] at w; cases w
theorem AfS.later (n : Nxt false σ ρ Hf H σ1 ρ1 Hf1 H1) (pi : Pin pn σ σ1) : ∀ {o : Fl}, AfS G pn σ ρ Hf H D o → AfS G pn σ1 ρ1 Hf1 H1 D o
  | .nx _, q => fun σ' Hf' H' n' p' => q σ' Hf' H' (n.trans n') (pi.trans p')
  | .brk _, q => fun σ' Hf' H' n' p' => q σ' Hf' H' (n.trans n') (pi.trans p')
  | .ct _, q => fun σ' Hf' H' n' p' => q σ' Hf' H' (n.trans n') (pi.trans p')
  | .ret (.fz d) _, q => fun v σ' Hf' H' n' p' r => q v σ' Hf' H' (n.trans n') (pi.trans p') r
  | .ret (.ow ds) _, q => fun v σ' Hf' H' n' p' r => q v σ' Hf' H' (n.trans n') (pi.trans p') (by
      obtain ⟨p, vs, e, h1, h3⟩ := r
      exact ⟨p, vs, e, h1.back n, h3⟩)
  | .ret (.tr t) _, q => fun v σ' Hf' H' n' p' r => q v σ' Hf' H' (n.trans n') (pi.trans p') (by
      obtain ⟨F, r1, r2, r3⟩ := r
      exact ⟨F, r1, r2, fun a m => ⟨(r3 a m).1.back n, (r3 a m).2⟩⟩)
  | .exc _ _, q => fun σ' Hf' H' n' p' => q σ' Hf' H' (n.trans n') (pi.trans p')
  | .bad, q => q
end
section
variable {X : Cx} {G : Gx} {e a b : Expr} {es : List Expr} {f g : M PyData} {fs : M (List PyData)} {pos : Pos} {tg : Expr} {pn : List Nat} {st : Stmt} {sts : List Stmt} {s t : Rho → Fl}
@[simp] def sSeq (s t : Rho → Fl) : Rho → Fl := fun ρ => match s ρ with
  | .nx ρ1 => t ρ1
  | x => x
@[simp] def sNil : Rho → Fl := fun ρ => .nx ρ
theorem fss_nil : PSs X [] (tS G pn sNil) := pss_nil.imp fun D σ H ⟨Hf, ρ, rp, af⟩ => af σ Hf H (.refl rp) (.refl _ _)
theorem fss_one (h : PS X st (tS G pn s)) : PSs X [st] (tS G pn s) := pss_one h
theorem fss_cons (h1 : PS X st (tS G pn s)) (h2 : PSs X sts (tS G pn t)) : PSs X (st :: sts) (tS G pn (sSeq s t)) := by
  refine (pss_cons h1 h2).imp fun D σ H ⟨Hf, ρ, rp, af⟩ => ⟨Hf, ρ, rp, ?_⟩
  unfold sSeq at af
  cases e : s ρ with
  | nx ρ1 => rw [e] at af; exact fun σ1 Hf1 H1 n p => ⟨Hf1, ρ1, n.rp, af.later n p⟩
  | brk ρ1 => rw [e] at af; exact af
  | ct ρ1 => rw [e] at af; exact af
  | ret r ρ1 => rw [e] at af; exact af
  | exc c ρ1 => rw [e] at af; exact af
  | bad => rw [e] at af; exact af
@[simp] def sBnd {α : Type} (f : M α) (k : α → Rho → Fl) : Rho → Fl := fun ρ => match f ρ with
  | .ok (x, ρ1) => k x ρ1
  | .exc c ρ1 => .exc c ρ1
  | .bad => .bad
theorem stepS {α β : Type} {R1 : Hp → β → α → Prop} {σ : St} {ρ : Rho} {Hf H : Hp} {D : Ends} {g : M α} {k : α → Rho → Fl} (rp : Rp Hf H σ ρ) (af : AfS G pn σ ρ Hf H D (sBnd g k ρ)) :
    tG G R1 g σ H fun y H1 => ∃ b Hf1 ρ1, Nxt false σ ρ Hf H σ ρ1 Hf1 H1 ∧ R1 Hf1 y b ∧ AfS G pn σ ρ1 Hf1 H1 D (k b ρ1) := by
  refine ⟨Hf, ρ, rp, ?_⟩
  unfold sBnd at af
  cases e : g ρ with
  | ok p =>
    obtain ⟨b, ρ1⟩ := p
    rw [e] at af
    exact fun x Hf1 H1 n r => ⟨b, Hf1, ρ1, n.any, r, af.later n.any (.refl _ _)⟩
  | exc c ρ1 => rw [e] at af; exact fun Hf' H' n => af σ Hf' H' n.any (.refl _ _)
  | bad => rw [e] at af; exact af
theorem stepSL {σ : St} {ρ : Rho} {Hf H : Hp} {D : Ends} {g : M (List PyData)} {k : List PyData → Rho → Fl} (rp : Rp Hf H σ ρ) (af : AfS G pn σ ρ Hf H D (sBnd g k ρ)) :
    tL G g σ H fun y H1 => ∃ p vs ds Hf1 ρ1, y = .ref p ∧ Nxt false σ ρ Hf H σ ρ1 Hf1 H1 ∧ (Fre H σ ρ p ∧ ¬ LkA H σ ρ p) ∧ Hf1 p = none ∧ ¬ OwnA H1 σ ρ1 p ∧ H1 p = some (.lst vs) ∧ RepA Hf1 vs ds ∧ AfS G pn σ ρ Hf H D (k ds ρ1) := by
  refine ⟨Hf, ρ, rp, ?_⟩
  unfold sBnd at af
  cases e : g ρ with
  | ok p =>
    obtain ⟨b, ρ1⟩ := p
    rw [e] at af
    exact fun p vs Hf1 H1 n h1 h2 h3 h4 r => ⟨p, vs, b, Hf1, ρ1, rfl, n.any, ⟨h1, h1.notLk rp⟩, h2, h3, h4, r, af⟩
  | exc c ρ1 => rw [e] at af; exact fun Hf' H' n => af σ Hf' H' n.any (.refl _ _)
  | bad => rw [e] at af; exact af
theorem _root_.Fx.tL.mono {f : M (List PyData)} {σ : St} {H : Hp} {Q Q' : VK} (h : ∀ x H, Q x H → Q' x H) (t : tL G f σ H Q) : tL G f σ H Q' := by
  obtain ⟨Hf, ρ, rp, q⟩ := t
  refine ⟨Hf, ρ, rp, ?_⟩
  cases e : f ρ with
  | ok x => obtain ⟨ds, ρ'⟩ := x; rw [e] at q; exact fun p vs Hf' H' n h1 h2 h3 h4 r => h _ _ (q p vs Hf' H' n h1 h2 h3 h4 r)
  | exc c ρ1 => rw [e] at q; exact q
  | bad => rw [e] at q; exact q
@[simp] def sDrop (f : M PyData) : Rho → Fl := fun ρ => (sBnd f fun _ ρ => .nx ρ) ρ
theorem fs_expr (he : PE X e (tE G f)) (hs : swapsWith e none pos.line X.env = pure false := by rfl) : PS X (.Expr e pos) (tS G pn (sDrop f)) := by
  refine (ps_expr he hs).imp fun D σ H ⟨Hf, ρ, rp, af⟩ => ?_
  exact (stepS rp af).mono fun x H1 ⟨d, Hf1, ρ1, n1, ra, af1⟩ => af1 σ Hf1 H1 (.refl n1.rp) (.refl _ _)
theorem pin_set {i : Nat} {σ : St} {o : Option V} (h : i ∉ pn) : Pin pn σ (σ.set i o) := fun j z => by
  rw [List.getElem?_set, if_neg (fun (q : i = j) => h (q ▸ z))]
@[simp] def sSet (i : Nat) (f : M PyData) : Rho → Fl := fun ρ => (sBnd f fun d ρ => .nx (ρ.set i (.fz d))) ρ
theorem fs_set (i : Nat) {x : Str} {pos' : Pos} (hN : X.N.Nodup) (hpn : i ∉ pn) (he : PE X e (tE G f)) (hi : X.N[i]? = some x := by rfl) (hx : Loc X.env.scope x := by first | exact Or.inl rfl | exact Or.inr rfl) (hs : swapsWith e (some (.Name x pos')) pos.line X.env = pure false := by rfl) (hf : X.fn x = true ∨ X.env.scope.names.lookup x = some .local := by first | exact .inl rfl | exact .inr rfl) :
    PS X (.Assign [.Name x pos'] e pos) (tS G pn (sSet i f)) := by
  refine (ps_set hN hi hx he hs hf).imp fun D σ H ⟨Hf, ρ, rp, af⟩ => ?_
  exact (stepS rp af).mono fun v H1 ⟨d, Hf1, ρ1, n1, ra, af1⟩ => af1 _ Hf1 H1 (n1.rp.put ra) (pin_set hpn)
@[simp] def sSetL (i : Nat) (f : M (List PyData)) : Rho → Fl := fun ρ => (sBnd f fun ds ρ => .nx (ρ.set i (.ow ds))) ρ
theorem rd_setL {i : Nat} {f : M (List PyData)} (hpn : i ∉ pn) (D : Ends) (σ : St) (H : Hp) (h : tS G pn (sSetL i f) D σ H) : tAsg (tL G f) (gName i) D σ H := by
  obtain ⟨Hf, ρ, rp, af⟩ := h
  refine (stepSL rp af).mono fun v H1 ⟨p, vs, ds, Hf1, ρ1, ev, n1, h1, h2, h3, h4, r, af1⟩ => ?_
  subst ev
  exact af1 _ Hf1 H1 (n1.putO h1.1 h2 h3 h1.2 h4 r) (pin_set hpn)
theorem fs_setL (i : Nat) {x : Str} {pos' : Pos} {f : M (List PyData)} (hN : X.N.Nodup) (hpn : i ∉ pn) (he : PE X e (tL G f)) (hi : X.N[i]? = some x := by rfl) (hx : Loc X.env.scope x := by first | exact Or.inl rfl | exact Or.inr rfl) (hs : swapsWith e (some (.Name x pos')) pos.line X.env = pure false := by rfl) (hf : X.fn x = true ∨ X.env.scope.names.lookup x = some .local := by first | exact .inl rfl | exact .inr rfl) :
    PS X (.Assign [.Name x pos'] e pos) (tS G pn (sSetL i f)) := (ps_set hN hi hx he hs hf).imp (rd_setL hpn)
theorem fs_setLc (i : Nat) {y : Str} {py spos : Pos} {elt iter : Expr} {ifs : List Expr} {scope : Scope} {own : List (Str × Nat)} {fi : M (List PyData)} {is : List Nat} {g : PyData → Rho → Option Rho} {tt : M Bool} {fe : M PyData} (hc : X.calm = true) (hN : X.N.Nodup) (hpn : i ∉ pn) (hy : X.N[i]? = some y) (hyl : X.env.scope.names.lookup y = some .local)
    (hsw : swapsWith (.ListComp elt [⟨tg, iter, ifs, 0⟩] scope pos) (some (.Name y py)) spos.line X.env = pure true) (ok : BlkOk X.N X.env.scope scope own) (his : ∀ i ∈ is, i ∈ own.map (·.2)) (hi : PI X tg iter (tI G fi))
    (hg : ∀ (s : Shared) (H : Hp) (C : Addr) (cl : List (Str × Addr)) (fp : List Addr), PG (X.blk s H scope (compEnvC scope cl C X.env) fp) tg (tGt is g)) (ht : ∀ (s : Shared) (H : Hp) (C : Addr) (cl : List (Str × Addr)) (fp : List Addr), PTs (X.blk s H scope (compEnvC scope cl C X.env) fp) ifs (tT (G0 G) tt))
    (he : ∀ (s : Shared) (H : Hp) (C : Addr) (cl : List (Str × Addr)) (fp : List Addr), PE (X.blk s H scope (compEnvC scope cl C X.env) fp) elt (tE (G0 G) fe)) (hs : ∀ x, foldedSetIterable iter X.env x = pure x := by intro _; rfl) (hgq : G.q = false := by rfl) :
    PS X (.Assign [.Name y py] (.ListComp elt [⟨tg, iter, ifs, 0⟩] scope pos) spos) (tS G pn (sSetL i (fLc fi g tt fe (own.map (·.2))))) := by
  refine (ps_setLc hc hN hy hyl hsw hi ok hg ht he hs).imp fun D σ H h => ?_
  exact lc_run hgq his σ H _ (rd_setL hpn D σ H h)
@[simp] def sAsg (g : PyData → Rho → Option Rho) (f : M PyData) : Rho → Fl := fun ρ => (sBnd f fun d ρ => match g d ρ with
  | some ρ' => .nx ρ'
  | none => .bad) ρ
theorem pin_only {is : List Nat} {σ σ' : St} (o : Only is σ σ') (h : ∀ i ∈ is, i ∉ pn) : Pin pn σ σ' := fun j z => o.2 j fun q => h j q z
@[simp] def sRet (f : M PyData) : Rho → Fl := fun ρ => (sBnd f fun d ρ => .ret (.fz d) ρ) ρ
theorem fs_ret (he : PE X e (tE G f)) : PS X (.Return (some e) pos) (tS G pn (sRet f)) := by
  refine (ps_ret he).imp fun D σ H ⟨Hf, ρ, rp, af⟩ => ?_
  exact (stepS rp af).mono fun x H1 ⟨d, Hf1, ρ1, n1, ra, af1⟩ => af1 x σ Hf1 H1 (.refl n1.rp) (.refl _ _) ra
@[simp] def sRetL (f : M (List PyData)) : Rho → Fl := fun ρ => (sBnd f fun ds ρ => .ret (.ow ds) ρ) ρ
theorem fs_retL {f : M (List PyData)} (hpn : pn = []) (he : PE X e (tL G f)) : PS X (.Return (some e) pos) (tS G pn (sRetL f)) := by
  refine (ps_ret he).imp fun D σ H ⟨Hf, ρ, rp, af⟩ => ?_
  refine (stepSL rp af).mono fun v H1 ⟨p, vs, ds, Hf1, ρ1, ev, n1, h1, h2, h3, h4, r, af1⟩ => ?_
  subst ev
  exact af1 _ σ Hf1 H1 n1 (.refl _ _) ⟨p, vs, rfl, h1.1, h2, h3, h4, r⟩
@[simp] def io0 (ρ : Rho) : Bool := match (ρ[(0 : Nat)]? : Option Sl) with
  | some (.ow _) => true
  | _ => false
theorem io0_own {ρ : Rho} (h : io0 ρ = true) : ∃ ds, ρ[0]? = some (.ow ds) := by
  unfold io0 at h
  split at h
  · rename_i ds e; exact ⟨ds, e⟩
  · cases h
@[simp] def sRetL0 (f : M (List PyData)) : Rho → Fl := fun ρ => if io0 ρ then sRetL f ρ else .bad
@[simp] def sRetN : Rho → Fl := fun ρ => .ret (.fz .none) ρ
@[simp] def sRetV (i : Nat) : Rho → Fl := fun ρ => match ρ[i]? with
  | some (.fz d) => .ret (.fz d) ρ
  | some (.ow ds) => .ret (.ow ds) (ρ.set i .un)
  | _ => .bad
theorem Rp.drop {Hf H : Hp} {σ : St} {ρ : Rho} (rp : Rp Hf H σ ρ) (i : Nat) : Nxt false σ ρ Hf H σ (ρ.set i .un) Hf H := by
  refine rp.weak (by rw [List.length_set]; exact rp.len) fun j s h => ?_
  rw [List.getElem?_set] at h
  split at h
  · split at h
    · cases h; exact .inr ⟨True.intro, slok_un⟩
    · cases h
  · exact .inl ⟨h, rfl⟩
theorem Rp.drop_own {Hf H : Hp} {σ : St} {ρ : Rho} (rp : Rp Hf H σ ρ) {i : Nat} {a : Addr} (h : OwnI H σ ρ i a) : ¬ OwnA H σ (ρ.set i .un) a := fun ⟨j, s, v, e1, e2, o⟩ => by
  rw [List.getElem?_set] at e1
  split at e1
  · split at e1
    · cases e1; exact o.elim
    · cases e1
  · rename_i n
    exact n (rp.nd i j a h ⟨s, v, e1, e2, o⟩)
theorem fs_retV (i : Nat) {x : Str} {p1 : Pos} (hpi : pn = []) (hN : X.N[i]? = some x := by rfl) (hv : Vis X.env.scope x := by first | exact Or.inl rfl | exact Or.inr (Or.inl rfl) | exact Or.inr (Or.inr rfl)) (hd : (x == ("__debug__" : Str)) = false := by decide)
    (hcd : (x == ("__classdict__" : Str)) = false := by decide) : PS X (.Return (some (.Name x p1)) pos) (tS G pn (sRetV i)) := by
  refine (ps_ret (pe_var hN hv hd hcd)).imp fun D σ H ⟨Hf, ρ, rp, af⟩ => ?_
  unfold sRetV at af
  cases e : ρ[i]? with
  | none => rw [e] at af; exact af.elim
  | some s =>
    rw [e] at af
    cases s with
    | un => exact af.elim
    | raw _ => exact af.elim
    | tr _ => exact af.elim
    | lk _ => exact af.elim
    | pa _ _ => exact af.elim
    | fz d =>
      obtain ⟨v, hv, q⟩ := slok_fz' (rp.sl i _ e)
      exact ⟨v, hv, af v σ Hf H (.refl rp) (.refl _ _) q⟩
    | ow ds =>
      obtain ⟨p, vs, e1, h1, h2, h3⟩ := slok_ow (rp.sl i _ e)
      have oi : OwnI H σ ρ i p := (ownI_ow e e1).mpr rfl
      exact ⟨_, e1, af _ σ Hf H (rp.drop i) (.refl _ _) ⟨p, vs, rfl, .inr ⟨i, oi⟩, h1, rp.drop_own oi, h2, h3⟩⟩
@[simp] def sRetV0 (i : Nat) : Rho → Fl := fun ρ => if io0 ρ then sRetV i ρ else .bad
theorem fs_retV0 (i : Nat) {x : Str} {p1 : Pos} (hpi : pn = [0]) (hi0 : i ≠ 0) (hN : X.N[i]? = some x := by rfl) (hv : Vis X.env.scope x := by first | exact Or.inl rfl | exact Or.inr (Or.inl rfl) | exact Or.inr (Or.inr rfl)) (hd : (x == ("__debug__" : Str)) = false := by decide)
    (hcd : (x == ("__classdict__" : Str)) = false := by decide) : PS X (.Return (some (.Name x p1)) pos) (tS G pn (sRetV0 i)) := by
  refine (ps_ret (pe_var hN hv hd hcd)).imp fun D σ H ⟨Hf, ρ, rp, af⟩ => ?_
  unfold sRetV0 at af
  cases e0 : io0 ρ with
  | false => rw [e0] at af; exact False.elim af
  | true =>
    rw [e0, if_pos rfl] at af
    obtain ⟨ds0, h0⟩ := io0_own e0
    unfold sRetV at af
    cases e : ρ[i]? with
    | none => rw [e] at af; exact af.elim
    | some s =>
      rw [e] at af
      cases s with
      | un => exact af.elim
      | raw _ => exact af.elim
      | tr _ => exact af.elim
      | lk _ => exact af.elim
      | pa _ _ => exact af.elim
      | fz d =>
        obtain ⟨v, hv, q⟩ := slok_fz' (rp.sl i _ e)
        exact ⟨v, hv, af v σ Hf H (.refl rp) (.refl _ _) q⟩
      | ow ds =>
        obtain ⟨p, vs, e1, h1, h2, h3⟩ := slok_ow (rp.sl i _ e)
        have oi : OwnI H σ ρ i p := (ownI_ow e e1).mpr rfl
        exact ⟨_, e1, af _ σ Hf H (rp.drop i) (.refl _ _) ⟨p, vs, rfl, .inr ⟨i, oi⟩, h1, rp.drop_own oi, h2, h3⟩⟩
@[simp] def sIf (p : M Bool) (s t : Rho → Fl) : Rho → Fl := fun ρ => (sBnd p fun c => if c = true then s else t) ρ
theorem fs_if {c : Expr} {as bs : List Stmt} {p : M Bool} (hc : PT X c (tT G p)) (ha : PSs X as (tS G pn s)) (hb : PSs X bs (tS G pn t)) : PS X (.If c as bs pos) (tS G pn (sIf p s t)) := by
  refine (ps_if hc ha hb).imp fun D σ H ⟨Hf, ρ, rp, af⟩ => ?_
  refine (stepS rp af).mono fun x H1 ⟨d, Hf1, ρ1, n1, ra, af1⟩ => ?_
  subst ra
  cases x with
  | true => exact ⟨Hf1, ρ1, n1.rp, af1⟩
  | false => exact ⟨Hf1, ρ1, n1.rp, af1⟩
@[simp] def sBrk : Rho → Fl := fun ρ => .brk ρ
@[simp] def sCt : Rho → Fl := fun ρ => .ct ρ
def forE (g : PyData → Rho → Option Rho) (s : Rho → Fl) : List PyData → Rho → Fl
  | [], ρ => .nx ρ
  | d :: ds, ρ => match g d ρ with
    | none => .bad
    | some ρ1 => match s ρ1 with
      | .nx ρ2 => forE g s ds ρ2
      | .ct ρ2 => forE g s ds ρ2
      | .brk ρ2 => .nx ρ2
      | x => x
def sFor (fi : M (List PyData)) (g : PyData → Rho → Option Rho) (s : Rho → Fl) : Rho → Fl := sBnd fi fun ds ρ => forE g s ds ρ
theorem stepSI {σ : St} {ρ : Rho} {Hf H : Hp} {D : Ends} {g : M (List PyData)} {k : List PyData → Rho → Fl} (rp : Rp Hf H σ ρ) (af : AfS G pn σ ρ Hf H D (sBnd g k ρ)) :
    tI G g σ H fun y H1 => ∃ b Hf1 ρ1, Nxt false σ ρ Hf H σ ρ1 Hf1 H1 ∧ IterOk σ ρ1 Hf1 H1 y b ∧ AfS G pn σ ρ1 Hf1 H1 D (k b ρ1) := by
  refine ⟨Hf, ρ, rp, ?_⟩
  unfold sBnd at af
  cases e : g ρ with
  | ok p =>
    obtain ⟨b, ρ1⟩ := p
    rw [e] at af
    exact fun x Hf1 H1 n r => ⟨b, Hf1, ρ1, n.any, r, af.later n.any (.refl _ _)⟩
  | exc c ρ1 => rw [e] at af; exact fun Hf' H' n => af σ Hf' H' n.any (.refl _ _)
  | bad => rw [e] at af; exact af
theorem fs_for {iter : Expr} {fi : M (List PyData)} {is : List Nat} {g : PyData → Rho → Option Rho} (hp : PassesOwn (model X.prog X.w) X.A X.env X.xe) (hc : X.calm = true) (hpn : ∀ i ∈ is, i ∉ pn) (hi : PI X tg iter (tI G fi)) (hg : PG X tg (tGt is g)) (hb : PSs X sts (tS G pn s))
    (hs : ∀ x, foldedSetIterable iter X.env x = pure x := by intro _; rfl) : PS X (.For tg iter sts [] pos) (tS G pn (sFor fi g s)) := by
  refine (ps_for hp hc hi hg hb hs).imp fun D σ H ⟨Hf, ρ, rp, af⟩ => ?_
  refine (stepSI rp af).mono fun J H1 ⟨ds, Hf1, ρ1, n1, hJ, af1⟩ => ?_
  refine ⟨fun i m σc Hc => m = ds.length - i ∧ i ≤ ds.length ∧ ∃ Hfc ρc, Nxt false σ ρ1 Hf1 H1 σc ρc Hfc Hc ∧ AfS G pn σc ρc Hfc Hc D (forE g s (ds.drop i) ρc), ⟨ds.length, by simp, Nat.zero_le _, Hf1, ρ1, .refl n1.rp, af1⟩, ?_⟩
  rintro i m σc Hc ⟨rfl, hi, Hfc, ρc, sm, afc⟩
  have rpc := sm.rp
  have it := hJ i Hfc Hc σc ρc sm
  by_cases hlt : i < ds.length
  · have ed : ds[i]? = some ds[i] := List.getElem?_eq_getElem hlt
    have edr : ds.drop i = ds[i] :: ds.drop (i + 1) := List.drop_eq_getElem_cons hlt
    obtain ⟨hgo, hy⟩ := it.1 _ ed
    rw [edr] at afc
    unfold forE at afc
    refine .inr ⟨hgo, fun σ' H' => ∃ Hfc ρc, Nxt false σ ρ1 Hf1 H1 σ' ρc Hfc H' ∧ AfS G pn σ' ρc Hfc H' D (forE g s (ds.drop (i + 1)) ρc), fun σ' H' q => ⟨ds.length - (i + 1), by omega, rfl, hlt, q⟩, fun x H' yx => ?_⟩
    obtain ⟨Hfy, ny, ry⟩ := hy x H' yx
    cases eg : g ds[i] ρc with
    | none => simp only [eg] at afc; exact False.elim afc
    | some ρg =>
      simp only [eg] at afc
      refine ⟨Hfy, ρc, _, ρg, ny.rp, ry, eg, fun σ2 n2 o2 => ⟨Hfy, ρg, n2.rp, ?_⟩⟩
      have n3 := (Nxt.any ny).trans n2
      have p3 : Pin pn σc σ2 := pin_only o2 hpn
      cases es : s ρg with
      | nx ρ2 =>
        simp only [es] at afc
        exact fun σ' Hf' H' n4 p4 => ⟨Hf', ρ2, sm.trans (n3.trans n4), afc.later (n3.trans n4) (p3.trans p4)⟩
      | ct ρ2 =>
        simp only [es] at afc
        exact fun σ' Hf' H' n4 p4 => ⟨Hf', ρ2, sm.trans (n3.trans n4), afc.later (n3.trans n4) (p3.trans p4)⟩
      | brk ρ2 =>
        simp only [es] at afc
        exact fun σ' Hf' H' n4 p4 => afc σ' Hf' H' (n3.trans n4) (p3.trans p4)
      | ret r ρ2 =>
        simp only [es] at afc
        have q := AfS.later (D := D) n3 p3 afc
        exact q
      | exc c ρ2 =>
        simp only [es] at afc
        exact fun σ' Hf' H' n4 p4 => afc σ' Hf' H' (n3.trans n4) (p3.trans p4)
      | bad => simp only [es] at afc; exact False.elim afc
  · have ei : i = ds.length := by omega
    subst ei
    rw [List.drop_length] at afc
    unfold forE at afc
    exact .inl ⟨it.2 (Nat.le_refl _), afc σc Hfc Hc (.refl rpc) (.refl _ _)⟩
end
end Fx
namespace Fx
open PySem L2
variable [Tabz]
section
variable {X : Cx} {G : Gx} {e a b : Expr} {es : List Expr} {f g : M PyData} {fs : M (List PyData)} {pos : Pos} {tg : Expr} {pn : List Nat} {st : Stmt} {sts : List Stmt} {s t : Rho → Fl}
@[simp] def isOw (i : Nat) (ρ : Rho) : Bool := match (ρ[i]? : Option Sl) with
  | some (.ow _) => true
  | _ => false
theorem isOw_ow {i : Nat} {ρ : Rho} (h : isOw i ρ = true) : ∃ ds, ρ[i]? = some (.ow ds) := by
  unfold isOw at h
  split at h
  · rename_i ds e; exact ⟨ds, e⟩
  · cases h
@[simp] def mutO (i : Nat) (k : List PyData → Option (List PyData)) : Rho → Option Rho := fun ρ => match (ρ[i]? : Option Sl) with
  | some (.ow ds) => (k ds).map fun es => ρ.set i (.ow es)
  | _ => none
@[simp] def sMut {α : Type} (i : Nat) (f : M α) (k : α → List PyData → Option (List PyData)) : Rho → Fl := fun ρ => if isOw i ρ then sBnd f (fun x ρ1 => match mutO i (k x) ρ1 with
    | some ρ2 => .nx ρ2
    | none => .bad) ρ else .bad
theorem mutO_some {i : Nat} {k : List PyData → Option (List PyData)} {ρ ρ2 : Rho} (h : mutO i k ρ = some ρ2) : ∃ ds es, ρ[i]? = some (.ow ds) ∧ k ds = some es ∧ ρ2 = ρ.set i (.ow es) := by
  unfold mutO at h
  split at h
  · rename_i ds e
    cases q : k ds with
    | none => rw [q] at h; cases h
    | some es => rw [q] at h; cases h; exact ⟨ds, es, e, q, rfl⟩
  · cases h
def kAppend (d : PyData) (ds : List PyData) : Option (List PyData) := if small ds.length then some (ds ++ [d]) else none
theorem fs_append (i : Nat) {x : Str} {p1 ap cp : Pos} (he : PE X e (tE G f)) (hN : X.N[i]? = some x := by rfl) (hv : Vis X.env.scope x := by first | exact Or.inl rfl | exact Or.inr (Or.inl rfl) | exact Or.inr (Or.inr rfl)) (hd : (x == ("__debug__" : Str)) = false := by decide)
    (hcd : (x == ("__classdict__" : Str)) = false := by decide) (hbase : attributeBase (.Name x p1) "append" X.env (eval (.Name x p1) X.env) = eval (.Name x p1) X.env := by rfl)
    (hfew : ((backTo cp (starEach [e] X.env)).all (fun x => !x.1) && (backToKw cp (keywordEach [] X.env)).all (fun x => x.1.isSome) && decide (([e] : List Expr).length + ([] : List Keyword).length + (if ([] : List Keyword).isEmpty then 0 else 1) < 30)) = true := by rfl)
    (hline : (ap.endLine == cp.line) = true := by rfl) (hs : starEach [e] X.env = (false, eval e X.env) :: starEach [] X.env := by rfl) (hplain : (backTo cp (starEach [] X.env)).any (·.1) = false := by rfl)
    (hsw : swapsWith (.Call (.Attribute (.Name x p1) "append" ap) [e] [] cp) none pos.line X.env = pure false := by rfl) : PS X (.Expr (.Call (.Attribute (.Name x p1) "append" ap) [e] [] cp) pos) (tS G pn (sMut i f kAppend)) := by
  refine (ps_expr (pe_bm PySem.F.plainAttrs_list PySem.F.slot_list_append PySem.F.type_list_append mt_append (pe_var hN hv hd hcd) (pa_cons he pa_nil hs) hbase hfew hline hs hplain) hsw).imp fun D σ H ⟨Hf, ρ, rp, af⟩ => ?_
  unfold sMut at af
  cases e0 : isOw i ρ with
  | false => rw [e0] at af; exact False.elim af
  | true =>
    rw [e0, if_pos rfl] at af
    obtain ⟨ds0, h0⟩ := isOw_ow e0
    obtain ⟨p, vs0, s0, _, g0, _⟩ := slok_ow (rp.sl i _ h0)
    refine ⟨_, s0, .inl ⟨rfl, _, SqL.of g0⟩, (stepS rp af).mono fun v H1 ⟨d, Hf1, ρ1, n1, ra, af1⟩ => ?_⟩
    cases em : mutO i (kAppend d) ρ1 with
    | none => simp only [em] at af1; exact False.elim af1
    | some ρ2 =>
      simp only [em] at af1
      obtain ⟨ds, es, h1, h2, rfl⟩ := mutO_some em
      obtain ⟨q, vs, s1, f1, g1, r1⟩ := slok_ow (n1.rp.sl i _ h1)
      rw [s0] at s1
      cases s1
      unfold kAppend at h2
      split at h2
      · rename_i hs
        cases h2
        refine ⟨p, vs, v, rfl, rfl, g1, by rw [repA_len r1]; exact small_lt hs, ?_⟩
        exact af1 σ Hf1 _ (n1.rp.mut h1 s0 (repA_append r1 (.cons ra .nil))) (.refl _ _)
      · cases h2
def kSet (d j : PyData) (ds : List PyData) : Option (List PyData) := match j with
  | .int k => (ixN ds.length k).map fun n => ds.set n d
  | _ => none
@[simp] def sSetIx (i : Nat) (f g : M PyData) : Rho → Fl := fun ρ => (sBnd f fun d => sMut i g (kSet d)) ρ
theorem fs_setIx (i : Nat) {x : Str} {p1 tp : Pos} (he : PE X e (tE G f)) (hb : PE X b (tE G g)) (hN : X.N[i]? = some x := by rfl) (hv : Vis X.env.scope x := by first | exact Or.inl rfl | exact Or.inr (Or.inl rfl) | exact Or.inr (Or.inr rfl)) (hd : (x == ("__debug__" : Str)) = false := by decide)
    (hcd : (x == ("__classdict__" : Str)) = false := by decide)
    (ha : ∀ v, assign (.Subscript (.Name x p1) b tp) X.env v = (do
      let ov ← holding [v] (eval (.Name x p1) X.env)
      let iv ← holding [v, ov] (eval b X.env)
      standAt tp
      holding [v, ov, iv] (setItem ov iv v)
      release [v, ov, iv] []) := by intro _; rfl) (hs : swapsWithSole [.Subscript (.Name x p1) b tp] e pos.line X.env = pure false := by rfl) (hw : swappedStores [.Subscript (.Name x p1) b tp] e X.env = pure none := by rfl)
    (h1 : (assignEach [.Subscript (.Name x p1) b tp] X.env).map (·.2) = [assign (.Subscript (.Name x p1) b tp) X.env] := by rfl) : PS X (.Assign [.Subscript (.Name x p1) b tp] e pos) (tS G pn (sSetIx i f g)) := by
  refine (ps_asg he (pg_sub (pe_var hN hv hd hcd) hb set_list ha) hs hw h1).imp fun D σ H ⟨Hf, ρ, rp, af⟩ => ?_
  refine (stepS rp af).mono fun v H1 ⟨d, Hf1, ρ1, n1, ra, af1⟩ => ?_
  unfold sMut at af1
  cases e0 : isOw i ρ1 with
  | false => rw [e0] at af1; exact False.elim af1
  | true =>
    rw [e0, if_pos rfl] at af1
    obtain ⟨ds0, h0⟩ := isOw_ow e0
    obtain ⟨p, vs0, s0, _, g0, _⟩ := slok_ow (n1.rp.sl i _ h0)
    refine ⟨_, s0, (stepS n1.rp af1).mono fun y H2 ⟨j, Hf2, ρ2, n2, rj, af2⟩ => ?_⟩
    cases em : mutO i (kSet d j) ρ2 with
    | none => simp only [em] at af2; exact False.elim af2
    | some ρ3 =>
      simp only [em] at af2
      obtain ⟨ds, es, h1, h2, rfl⟩ := mutO_some em
      obtain ⟨q, vs, s1, f1, g1, r1⟩ := slok_ow (n2.rp.sl i _ h1)
      rw [s0] at s1
      cases s1
      cases j <;> simp only [kSet, reduceCtorEq] at h2
      rename_i k
      cases hk : ixN ds.length k with
      | none => rw [hk] at h2; cases h2
      | some n =>
        rw [hk] at h2
        cases h2
        rw [rep_int rj]
        refine ⟨p, vs, k, n, rfl, rfl, g1, by rw [repA_len r1]; exact hk, ?_⟩
        exact af2 σ Hf2 _ (n2.rp.mut h1 s0 (repA_set (rep_same n2.sub ra) n r1)) (.refl _ _)
@[simp] def sAug (i : Nat) (o : PyData → PyData → Option PyData) (f : M PyData) : Rho → Fl := fun ρ => match (ρ[i]? : Option Sl) with
  | some (.fz x) => sBnd f (fun y ρ1 => match o x y with
    | some z => .nx (ρ1.set i (.fz z))
    | none => .bad) ρ
  | _ => .bad
@[simp] def sRaise (c : Str) : Rho → Fl := fun ρ => .exc c ρ
theorem fs_raise {c m : Str} {j : Nat} {p p2 cp : Pos} {B newId initId : String} {bmB : List Value} (hc : X.calm = true) (tk : Takes X G.W) (F : ExcBaseFacts B newId initId bmB) (q : PySem.W.excIn X.K (G.cA c) bmB newId = true) (gC : X.mg c = some (.ref (G.cA c))) (kC : PySem.W.keepIn X.K (.ref (G.cA c)) = true) (r : Raises X (.ref (G.cA c))) (hg : Gl X c)
    (hdb : (c == ("__debug__" : Str)) = false := by decide) : PS X (.Raise (some (.Call (.Name c p) [.Constant (.str m) j p2] [] cp)) none pos) (tS G pn (sRaise c)) :=
  (ps_raise hc tk (pmk_own F q gC kC r hg hdb)).imp fun D σ H ⟨Hf, ρ, rp, af⟩ => af σ Hf H (.refl rp) (.refl _ _)
def RtP (H Hf' H' : Hp) (v : V) : Rt → Prop
  | .fz d => Rep Hf' v d
  | .ow ds => ∃ p vs, v = .ref p ∧ H p = none ∧ Hf' p = none ∧ H' p = some (.lst vs) ∧ RepA Hf' vs ds
  | .tr t => ∃ F, TR Hf' H' v t F ∧ F.Nodup ∧ ∀ a ∈ F, H a = none ∧ Hf' a = none
structure Sb (Hf H : Hp) : Prop where
  sm : Same Hf H
  tb : Tb H
  nt : NtH Hf
structure SmN (H H' : Hp) : Prop where
  keep : ∀ a o, H a = some o → NT o → H' a = some o
  dom : ∀ a, H' a = none → H a = none
  tb : Tb H'
theorem _root_.Fx.Rp.sb {Hf H : Hp} {σ : St} {ρ : Rho} (r : Rp Hf H σ ρ) : Sb Hf H := ⟨r.sub, r.tb, r.nt⟩
theorem Sb.later {Hf H H' : Hp} (r : Sb Hf H) (s : SmN H H') : Sb Hf H' := ⟨fun a o e => s.keep a o (r.sm a o e) fun ps z => r.nt a ps (by rw [e, z]), s.tb, r.nt⟩
def spP (cA : Str → Addr) (n : Nat) (F : List PyData → Out Rt) : Sp := fun vs H Q E => vs.length = n ∧ ∃ Hf ds, Sb Hf H ∧ RepA Hf vs ds ∧ (match F ds with
  | .ok r => ∀ v Hf' H', Same Hf Hf' → Sb Hf' H' → SmN H H' → (∀ a, Hf a = none → Hf' a = none ∨ H a = none) → RtP H Hf' H' v r → Q v H'
  | .exc c => ∀ H', SmN H H' → E (.ref (cA c)) none H'
  | .bad => False)
def spI (cA : Str → Addr) (n : Nat) (F : List PyData → List PyData → Out (Rt × List PyData)) : Sp := fun vs H Q E => vs.length = n ∧ ∃ Hf p ws us io ds, vs = .ref p :: us ∧ Sb Hf H ∧ Hf p = none ∧ H p = some (.lst ws) ∧ RepA Hf ws io ∧ RepA Hf us ds ∧ (match F io ds with
  | .ok (r, io') => ∀ v Hf' H' zs, Same Hf Hf' → Sb Hf' H' → (∀ a o, H a = some o → NT o → a ≠ p → H' a = some o) → (∀ a, H' a = none → H a = none) → (∀ a, Hf a = none → Hf' a = none ∨ H a = none) → Hf' p = none → H' p = some (.lst zs) → RepA Hf' zs io' → RtP H Hf' H' v r → Q v H'
  | .exc c => ∀ H', (∀ a o, H a = some o → NT o → a ≠ p → H' a = some o) → (∀ a, H' a = none → H a = none) → Tb H' → E (.ref (cA c)) none H'
  | .bad => False)
@[simp] def toOut : Fl → Out Rt
  | .nx _ => .ok (.fz .none)
  | .ret r _ => .ok r
  | .exc c _ => .exc c
  | _ => .bad
@[simp] def toOutI : Fl → Out (Rt × List PyData)
  | .nx ρ => (match (ρ[(0 : Nat)]? : Option Sl) with
    | some (.ow io) => .ok (.fz .none, io)
    | _ => .bad)
  | .ret r ρ => (match (ρ[(0 : Nat)]? : Option Sl) with
    | some (.ow io) => .ok (r, io)
    | _ => .bad)
  | .exc c _ => .exc c
  | _ => .bad
def st0 (N : List Str) (ds : List PyData) : Rho := ds.map Sl.fz ++ List.replicate (N.length - ds.length) Sl.un
def stI (N : List Str) (io ds : List PyData) : Rho := Sl.ow io :: (ds.map Sl.fz ++ List.replicate (N.length - (ds.length + 1)) Sl.un)
theorem st0_get {N : List Str} {ds : List PyData} {i : Nat} {sl : Sl} (h : (st0 N ds)[i]? = some sl) : (∃ d, ds[i]? = some d ∧ sl = .fz d) ∨ sl = .un := by
  unfold st0 at h
  by_cases q : i < ds.length
  · rw [List.getElem?_append_left (by simpa using q), List.getElem?_map, List.getElem?_eq_getElem q] at h
    cases h
    exact .inl ⟨_, List.getElem?_eq_getElem q, rfl⟩
  · rw [List.getElem?_append_right (by simpa using q), List.getElem?_replicate] at h
    split at h
    · cases h; exact .inr rfl
    · cases h
theorem start_get {N : List Str} {vs : List V} {i : Nat} {v : V} (h : vs[i]? = some v) : (L2.start N vs)[i]? = some (some v) := by
  unfold L2.start
  have hl : i < vs.length := (List.getElem?_eq_some_iff.mp h).1
  rw [List.getElem?_append_left (by simpa using hl), List.getElem?_map, h]
  rfl
theorem rp_less {Hf H : Hp} {σ : St} {ρ : Rho} (sm : Sb Hf H) (hl : ρ.length ≤ σ.length) (h : ∀ (i : Nat) (s : Sl), ρ[i]? = some s → Hless s ∧ SlOk Hf H σ[i]? s) : Rp Hf H σ ρ ∧ (∀ a, ¬ OwnA H σ ρ a) := by
  have no : ∀ i a, ¬ OwnI H σ ρ i a := fun i a ⟨s, v, e1, e2, o⟩ => by
    have := (h i s e1).1
    cases s <;> first | exact o.elim | exact this.elim
  refine ⟨⟨sm.sm, sm.tb, sm.nt, hl, fun i s e => (h i s e).2, fun i j a z => absurd z (no i a), fun a ⟨i, t, v, Hf0, F, e1, _⟩ => ((h i _ e1).1 : False).elim, fun j i qs t e1 _ => ((h j _ e1).1 : False).elim⟩, fun a ⟨i, z⟩ => no i a z⟩
theorem start_less {N : List Str} {vs : List V} {ds : List PyData} {Hf H : Hp} (r : RepA Hf vs ds) : (st0 N ds).length ≤ (L2.start N vs).length ∧ ∀ (i : Nat) (s : Sl), (st0 N ds)[i]? = some s → Hless s ∧ SlOk Hf H (L2.start N vs)[i]? s := by
  have hl := repA_len r
  refine ⟨by unfold st0 L2.start; simp [hl], fun i sl h => ?_⟩
  rcases st0_get h with ⟨d, e, rfl⟩ | rfl
  · obtain ⟨v, e1, r1⟩ := repA_get r e
    rw [start_get e1]
    exact ⟨True.intro, slok_fz.mpr r1⟩
  · exact ⟨True.intro, slok_un⟩
theorem rp_start {N : List Str} {vs : List V} {ds : List PyData} {Hf H : Hp} (sm : Sb Hf H) (r : RepA Hf vs ds) : Rp Hf H (L2.start N vs) (st0 N ds) := (rp_less sm (start_less (H := H) r).1 (start_less r).2).1
theorem noown_start {N : List Str} {vs : List V} {ds : List PyData} {H : Hp} {a : Addr} : ¬ OwnA H (L2.start N vs) (st0 N ds) a := fun ⟨i, s, v, h, _, o⟩ => by
  rcases st0_get h with ⟨d, _, z⟩ | z <;> (subst z; exact o.elim)
def CdIs (K : PySem.W.Frag) (f : Addr) (cdv : Value) : Prop := ∃ (oc : Value) (od : Option Addr) (fd : FuncData) (osl : Array (Option Value)), K.lookup f = some ⟨oc, od, .func fd, osl⟩ ∧ fd.code = cdv ∧ ∃ c, cdv = .ref c
theorem okC {P : Program} {w : World} {K : PySem.W.Frag} {mg : Str → Option Value} {base : Heap} {x qual : Str} {st : Stmt} {f : Addr} {fd : FuncData} {N ps : List Str} {k : Nat} {sp : Sp} (Fn : Fun K x qual st f fd) (S : FnScope N ps (defScope st)) (len : ∀ vs H Q E, sp vs H Q E → vs.length = ps.length)
    (hb : ∀ (cdv : Value), CdIs K f cdv → ∀ (A : Around) (outer : List Env) (s : Shared) (H : Hp) (vs : List V) (Q : VK) (E : XK), Room k (A.deeper (PyProof.Rows.envOfC qual (defScope st) s.heap.objs.size f cdv)) → sp vs H Q E →
      ∃ t, PSs (cxOf (L2.CX P w) P w K mg base N qual (defScope st) f cdv A outer s H E) (defBody st) t ∧ t { nx := fun _ H' => Q .non H', rt := Q } (L2.start N vs) H) : FnOk P w K mg base (L2.CX P w) (k + 1) f fd ps sp := by
  obtain ⟨oc, od, v1, v2, v3, an, cdv, v4, osl, e, lk, hcd⟩ := Fn.ex
  have ci : CdIs K f cdv := ⟨oc, od, fd, osl, lk, by rw [e], He.codeIn_ref hcd⟩
  subst e
  exact fn_of lk hcd S len fun A outer s H vs Q E hr h => hb cdv ci A outer s H vs Q E hr h
theorem fn_pureC {P : Program} {w : World} {K : PySem.W.Frag} {mg : Str → Option Value} {base : Heap} {cA : Str → Addr} {x qual : Str} {sd : Stmt} {f : Addr} {fd : FuncData} {N ps : List Str} {k : Nat} {g : Rho → Fl} (Fn : Fun K x qual sd f fd) (S : FnScope N ps (defScope sd))
    (hb : ∀ (cdv : Value), CdIs K f cdv → ∀ (A : Around) (outer : List Env) (s : Shared) (H : Hp) (E : XK), Room k (A.deeper (PyProof.Rows.envOfC qual (defScope sd) s.heap.objs.size f cdv)) → PSs (cxOf (L2.CX P w) P w K mg base N qual (defScope sd) f cdv A outer s H E) (defBody sd) (tS ⟨fun cls d _ H => E cls d H, cA, false⟩ [] g)) :
    FnOk P w K mg base (L2.CX P w) (k + 1) f fd ps (spP cA ps.length fun ds => toOut (g (st0 N ds))) := by
  refine okC Fn S (fun vs H Q E h => h.1) fun cdv ci A outer s H vs Q E hr h => ⟨_, hb cdv ci A outer s H E hr, ?_⟩
  obtain ⟨hl, Hf, ds, sm, r, h⟩ := h
  dsimp only at h
  refine ⟨Hf, st0 N ds, rp_start sm r, ?_⟩
  have keep : ∀ {σ' : St} {ρ' : Rho} {Hf' H' : Hp}, Nxt false (L2.start N vs) (st0 N ds) Hf H σ' ρ' Hf' H' → SmN H H' := fun n => ⟨fun b o e t => n.keep b o e t noown_start, n.dom, n.rp.tb⟩
  have fr : ∀ {σ' : St} {ρ' : Rho} {Hf' H' : Hp}, Nxt false (L2.start N vs) (st0 N ds) Hf H σ' ρ' Hf' H' → ∀ a, Hf a = none → Hf' a = none ∨ H a = none := fun n a z => (n.fr a z).imp id fun q => q.elim id fun w => absurd w noown_start
  cases e : g (st0 N ds) with
  | nx ρ' =>
    rw [e] at h
    exact fun σ' Hf' H' n _ => h .non Hf' H' n.sub n.rp.sb (keep n) (fr n) .non
  | ret rt ρ' =>
    rw [e] at h
    cases rt with
    | fz d => exact fun v σ' Hf' H' n _ q => h v Hf' H' n.sub n.rp.sb (keep n) (fr n) q
    | ow es => exact fun v σ' Hf' H' n _ ⟨p, us, ev, h1, h3, h4, h5, h6⟩ => h v Hf' H' n.sub n.rp.sb (keep n) (fr n) ⟨p, us, ev, h1.elim id fun z => absurd z noown_start, h3, h5, h6⟩
    | tr t => exact fun v σ' Hf' H' n _ ⟨F, h1, h2, h3⟩ => h v Hf' H' n.sub n.rp.sb (keep n) (fr n) ⟨F, h1, h2, fun a m => ⟨(h3 a m).1.elim id fun z => absurd z noown_start, (h3 a m).2.1⟩⟩
  | exc c ρ' =>
    rw [e] at h
    exact fun σ' Hf' H' n _ => h H' (keep n)
  | brk _ => rw [e] at h; exact h.elim
  | ct _ => rw [e] at h; exact h.elim
  | bad => rw [e] at h; exact h.elim
theorem fn_pure {P : Program} {w : World} {K : PySem.W.Frag} {mg : Str → Option Value} {base : Heap} {cA : Str → Addr} {x qual : Str} {sd : Stmt} {f : Addr} {fd : FuncData} {N ps : List Str} {k : Nat} {g : Rho → Fl} (Fn : Fun K x qual sd f fd) (S : FnScope N ps (defScope sd))
    (hb : ∀ (cdv : Value) (A : Around) (outer : List Env) (s : Shared) (H : Hp) (E : XK), Room k (A.deeper (PyProof.Rows.envOfC qual (defScope sd) s.heap.objs.size f cdv)) → PSs (cxOf (L2.CX P w) P w K mg base N qual (defScope sd) f cdv A outer s H E) (defBody sd) (tS ⟨fun cls d _ H => E cls d H, cA, false⟩ [] g)) :
    FnOk P w K mg base (L2.CX P w) (k + 1) f fd ps (spP cA ps.length fun ds => toOut (g (st0 N ds))) := fn_pureC Fn S fun cdv _ => hb cdv
theorem stI_get {N : List Str} {io ds : List PyData} {i : Nat} {sl : Sl} (h : (stI N io ds)[i]? = some sl) : (i = 0 ∧ sl = .ow io) ∨ (∃ j d, i = j + 1 ∧ ds[j]? = some d ∧ sl = .fz d) ∨ sl = .un := by
  unfold stI at h
  cases i with
  | zero => cases h; exact .inl ⟨rfl, rfl⟩
  | succ j =>
    rw [List.getElem?_cons_succ] at h
    by_cases q : j < ds.length
    · rw [List.getElem?_append_left (by simpa using q), List.getElem?_map, List.getElem?_eq_getElem q] at h
      cases h
      exact .inr (.inl ⟨j, _, rfl, List.getElem?_eq_getElem q, rfl⟩)
    · rw [List.getElem?_append_right (by simpa using q), List.getElem?_replicate] at h
      split at h
      · cases h; exact .inr (.inr rfl)
      · cases h
theorem own_startI {N : List Str} {us : List V} {p a : Addr} {io ds : List PyData} {H : Hp} (h : OwnA H (L2.start N (.ref p :: us)) (stI N io ds) a) : a = p := by
  obtain ⟨i, s, v, h1, h2, o⟩ := h
  rcases stI_get h1 with ⟨rfl, rfl⟩ | ⟨j, d, _, _, rfl⟩ | rfl
  · rw [start_get (v := .ref p) rfl] at h2
    cases h2
    cases (show V.ref p = .ref a from o)
    rfl
  · exact o.elim
  · exact o.elim
theorem rp_startI {N : List Str} {us : List V} {p : Addr} {ws : List V} {io ds : List PyData} {Hf H : Hp} (sm : Sb Hf H) (hp : Hf p = none) (hw : H p = some (.lst ws)) (rw' : RepA Hf ws io) (r : RepA Hf us ds) (hN : ds.length + 1 ≤ N.length) : Rp Hf H (L2.start N (.ref p :: us)) (stI N io ds) := by
  have hl := repA_len r
  have now : ∀ (i : Nat) (a : Addr), OwnI H (L2.start N (.ref p :: us)) (stI N io ds) i a → i = 0 := fun i a ⟨s, v, h, _, o⟩ => by
    rcases stI_get h with ⟨z, _⟩ | ⟨j, d, _, _, rfl⟩ | rfl
    · exact z
    · exact o.elim
    · exact o.elim
  refine ⟨sm.sm, sm.tb, sm.nt, by unfold stI L2.start; simp [hl], fun i sl h => ?_, fun i j a h1 h2 => by rw [now i a h1, now j a h2], fun a ⟨i, t, v, Hf0, F, h, _⟩ => ?_, fun j i qs t h _ => ?_⟩
  · rcases stI_get h with ⟨rfl, rfl⟩ | ⟨j, d, rfl, e, rfl⟩ | rfl
    · rw [start_get (v := .ref p) rfl]
      exact ⟨hp, ws, hw, rw'⟩
    · obtain ⟨v, e1, r1⟩ := repA_get r e
      rw [start_get (v := v) (by rw [List.getElem?_cons_succ]; exact e1)]
      exact slok_fz.mpr r1
    · exact slok_un
  · rcases stI_get h with ⟨_, z⟩ | ⟨_, d, _, _, z⟩ | z <;> cases z
  · rcases stI_get h with ⟨_, z⟩ | ⟨_, d, _, _, z⟩ | z <;> cases z
theorem fn_io {P : Program} {w : World} {K : PySem.W.Frag} {mg : Str → Option Value} {base : Heap} {cA : Str → Addr} {x qual : Str} {sd : Stmt} {f : Addr} {fd : FuncData} {N ps : List Str} {k : Nat} {g : Rho → Fl} (Fn : Fun K x qual sd f fd) (S : FnScope N ps (defScope sd))
    (hb : ∀ (cdv : Value) (A : Around) (outer : List Env) (s : Shared) (H : Hp) (E : XK), Room k (A.deeper (PyProof.Rows.envOfC qual (defScope sd) s.heap.objs.size f cdv)) → PSs (cxOf (L2.CX P w) P w K mg base N qual (defScope sd) f cdv A outer s H E) (defBody sd) (tS ⟨fun cls d _ H => E cls d H, cA, false⟩ [0] g)) :
    FnOk P w K mg base (L2.CX P w) (k + 1) f fd ps (spI cA ps.length fun io ds => toOutI (g (stI N io ds))) := by
  refine Fn.okX S (fun vs H Q E h => h.1) fun cdv A outer s H vs Q E hr h => ⟨_, hb cdv A outer s H E hr, ?_⟩
  obtain ⟨hl, Hf, p, ws, us, io, ds, rfl, sm, hp, hw, rw', r, h⟩ := h
  have hN : ds.length + 1 ≤ N.length := by
    rw [← repA_len r]
    have := congrArg List.length S.pre
    rw [List.length_take] at this
    rw [List.length_cons] at hl
    omega
  have rp := rp_startI (N := N) sm hp hw rw' r hN
  refine ⟨Hf, stI N io ds, rp, ?_⟩
  dsimp only at h
  have s0 : (L2.start N (.ref p :: us))[0]? = some (some (.ref p)) := start_get (v := .ref p) rfl
  have keep : ∀ {H' : Hp}, Keep (L2.start N (.ref p :: us)) (stI N io ds) H H' → ∀ a o, H a = some o → NT o → a ≠ p → H' a = some o := fun k b o e t ne => k b o e t fun z => ne (own_startI z)
  have fr : ∀ {σ' : St} {ρ' : Rho} {Hf' H' : Hp} {io' : List PyData}, Nxt false (L2.start N (.ref p :: us)) (stI N io ds) Hf H σ' ρ' Hf' H' → Pin [0] (L2.start N (.ref p :: us)) σ' → ρ'[0]? = some (.ow io') → (∀ a, Hf a = none → Hf' a = none ∨ H a = none) ∧ Hf' p = none ∧ ∃ zs, H' p = some (.lst zs) ∧ RepA Hf' zs io' := fun {σ' ρ' Hf' H' io'} n pi e => by
    obtain ⟨q, zs, e1, e2, e3, e4⟩ := slok_ow (n.rp.sl 0 _ e)
    rw [pi 0 (List.mem_singleton.mpr rfl), s0] at e1
    cases e1
    refine ⟨fun a z => (n.fr a z).elim .inl fun q => q.elim .inr fun w => .inl (by rw [own_startI w]; exact e2), e2, zs, e3, e4⟩
  cases e : g (stI N io ds) with
  | nx ρ' =>
    rw [e] at h
    unfold toOutI at h
    intro σ' Hf' H' n pi
    cases q : (ρ'[(0 : Nat)]? : Option Sl) with
    | none => simp only [q] at h
    | some sl =>
      cases sl with
      | un => simp only [q] at h
      | raw _ => simp only [q] at h
      | tr _ => simp only [q] at h
      | lk _ => simp only [q] at h
      | pa _ _ => simp only [q] at h
      | fz _ => simp only [q] at h
      | ow io' =>
        simp only [q] at h
        obtain ⟨f1, f2, zs, f3, f4⟩ := fr n pi q
        exact h .non Hf' H' zs n.sub n.rp.sb (keep n.keep) n.dom f1 f2 f3 f4 .non
  | ret rt ρ' =>
    rw [e] at h
    unfold toOutI at h
    intro v σ' Hf' H' n pi hq
    cases q : (ρ'[(0 : Nat)]? : Option Sl) with
    | none => simp only [q] at h
    | some sl =>
      cases sl with
      | un => simp only [q] at h
      | raw _ => simp only [q] at h
      | tr _ => simp only [q] at h
      | lk _ => simp only [q] at h
      | pa _ _ => simp only [q] at h
      | fz _ => simp only [q] at h
      | ow io' =>
        simp only [q] at h
        obtain ⟨f1, f2, zs, f3, f4⟩ := fr n pi q
        refine h v Hf' H' zs n.sub n.rp.sb (keep n.keep) n.dom f1 f2 f3 f4 ?_
        cases rt with
        | fz d => exact hq
        | ow es =>
          obtain ⟨p2, us2, ev, h1, h3, h4, h5, h6⟩ := hq
          refine ⟨p2, us2, ev, h1.elim id fun z => ?_, h3, h5, h6⟩
          have e0 := own_startI z
          subst e0
          exact absurd ⟨0, (ownI_ow q ((pi 0 (List.mem_singleton.mpr rfl)).trans s0)).mpr rfl⟩ h4
        | tr t =>
          obtain ⟨F, h1, h2, h3⟩ := hq
          refine ⟨F, h1, h2, fun a m => ⟨(h3 a m).1.elim id fun z => ?_, (h3 a m).2.1⟩⟩
          have e0 := own_startI z
          subst e0
          exact absurd ⟨0, (ownI_ow q ((pi 0 (List.mem_singleton.mpr rfl)).trans s0)).mpr rfl⟩ (h3 _ m).2.2
  | exc c ρ' =>
    rw [e] at h
    exact fun σ' Hf' H' n _ => h H' (keep n.keep) n.dom n.rp.tb
  | brk _ => rw [e] at h; exact h.elim
  | ct _ => rw [e] at h; exact h.elim
  | bad => rw [e] at h; exact h.elim
theorem spP_imp {cA : Str → Addr} {n : Nat} {F F' : List PyData → Out Rt} (h : ∀ ds, ds.length = n → F' ds ≠ .bad → F ds = F' ds) (vs : List V) (H : Hp) (Q : VK) (E : XK) (q : spP cA n F' vs H Q E) : spP cA n F vs H Q E := by
  obtain ⟨hl, Hf, ds, sm, r, q⟩ := q
  refine ⟨hl, Hf, ds, sm, r, ?_⟩
  have e : F ds = F' ds := h ds (by rw [← repA_len r]; exact hl) fun z => by rw [z] at q; exact q
  rw [e]
  exact q
theorem spI_imp {cA : Str → Addr} {n : Nat} {F F' : List PyData → List PyData → Out (Rt × List PyData)} (h : ∀ io ds, ds.length + 1 = n → F' io ds ≠ .bad → F io ds = F' io ds) (vs : List V) (H : Hp) (Q : VK) (E : XK) (q : spI cA n F' vs H Q E) : spI cA n F vs H Q E := by
  obtain ⟨hl, Hf, p, ws, us, io, ds, e1, sm, e2, e3, r1, r, q⟩ := q
  refine ⟨hl, Hf, p, ws, us, io, ds, e1, sm, e2, e3, r1, r, ?_⟩
  have e : F io ds = F' io ds := h io ds (by subst e1; rw [← repA_len r]; exact hl) fun z => by rw [z] at q; exact q
  rw [e]
  exact q
@[simp] def rtD : Rt → Option PyData
  | .fz d => some d
  | .ow ds => some (.list ds)
  | .tr _ => none
@[simp] def callM (F : List PyData → Out Rt) (ds : List PyData) : M PyData := fun ρ => match F ds with
  | .ok r => opt (rtD r) ρ
  | .exc c => .exc c ρ
  | .bad => .bad
@[simp] def fCall (F : List PyData → Out Rt) (fs : M (List PyData)) : M PyData := fun ρ => (bnd fs (callM F)) ρ
theorem nxt_call {q : Bool} {σ : St} {ρ : Rho} {Hf H Hf' H' : Hp} (rp : Rp Hf H σ ρ) (h1 : Same Hf Hf') (h2 : Sb Hf' H') (h3 : SmN H H') (h4 : ∀ a, Hf a = none → Hf' a = none ∨ H a = none) : Nxt q σ ρ Hf H σ ρ Hf' H' := by
  have kk : ∀ a, OwnA H σ ρ a ∨ LkA H σ ρ a → H' a = H a := fun a z => by
    obtain ⟨u, hu, tu⟩ := rp.liv z
    rw [hu]; exact h3.keep a u hu tu
  refine ⟨h1, fun a o h t _ => h3.keep a o h t, fun a ⟨i, z⟩ => .inl ⟨i, (rp.ownI_iff (fun b y => kk b (.inl ⟨i, y⟩)) a).mp z⟩, fun a z => rp.lka_of (fun b y => kk b (.inr y)) z, fun a z => h3.dom a z, fun a z => (h4 a z).imp id .inl, fun _ => ⟨fun i t e => ⟨e, rfl, fun a z => kk a (.inl ⟨i, z⟩)⟩, .refl⟩, rp.grow h1 h2.sm h2.tb h2.nt (fun a z => ⟨?_, kk a (.inl z)⟩) fun a z => kk a (.inr z)⟩
  obtain ⟨o1, vs, o2, _⟩ := rp.own z
  refine (h4 a o1).elim id fun q => ?_
  rw [o2] at q; cases q
theorem notOwn_call {σ : St} {ρ : Rho} {Hf H H' : Hp} (rp : Rp Hf H σ ρ) (h3 : SmN H H') {p : Addr} (hp : H p = none) : ¬ OwnA H' σ ρ p := fun ⟨i, z⟩ => by
  refine rp.notOwn hp ⟨i, (rp.ownI_iff (fun b y => ?_) p).mp z⟩
  obtain ⟨u, hu, tu⟩ := (rp.ownI y).2
  rw [hu]; exact h3.keep b u hu tu
theorem call_run {cA : Str → Addr} {n : Nat} {F : List PyData → Out Rt} (hcA : G.cA = cA) (hn : ∀ ds r, F ds = r → r ≠ .bad → ds.length = n) (σ : St) (H : Hp) (Q : VK) (h : tE G (fCall F fs) σ H Q) : tCallS (spP cA n F) (WE G.W) (tA G fs) σ H Q := by
  obtain ⟨Hf, ρ, rp, af⟩ := h
  refine (step rp af).mono fun vs H1 ⟨ds, Hf1, ρ1, n1, ra, af1⟩ => ?_
  have hl : vs.length = n := by
    rw [repA_len ra]
    refine hn ds _ rfl fun z => ?_
    unfold callM at af1
    rw [z] at af1
    exact af1
  refine ⟨hl, Hf1, ds, n1.rp.sb, ra, ?_⟩
  unfold callM at af1
  cases e : F ds with
  | bad => rw [e] at af1; exact af1.elim
  | exc c =>
    rw [e] at af1
    subst hcA
    exact fun H' s => af1 Hf1 H' (nxt_call n1.rp (Same.refl _) (n1.rp.sb.later s) s fun a z => .inl z)
  | ok r =>
    rw [e] at af1
    intro v Hf' H' h1 h2 h3 h4 h5
    have nn := nxt_call (q := G.q) n1.rp h1 h2 h3 h4
    cases r with
    | fz d => exact af1 v Hf' H' nn h5
    | ow es =>
      obtain ⟨p, us, rfl, g1, g2, g3, g4⟩ := h5
      obtain ⟨n2, r2⟩ := nn.take (.inl g1) g2 (notOwn_call n1.rp h3 g1) g3 g4
      exact af1 _ _ _ n2 r2
    | tr t => exact False.elim af1
variable {CX : CXT} {k : Nat} {fa : Addr} {fd : FuncData} {ps : List Str} {cA : Str → Addr} {x : Str} {p : Pos}
theorem fe_call {F : List PyData → Out Rt} {n : Nat} (hn : ∀ ds r, F ds = r → r ≠ .bad → ds.length = n) (Fo : FnOk X.prog X.w X.K X.mg X.base (L2.CX X.prog X.w) k fa fd ps (spP G.cA n F)) (hr : Room k X.A) (hg : Gl X x) (hm : X.mg x = some (.ref fa)) (hk : PySem.W.keepIn X.K (.ref fa) = true) (hb : Binds X.K fd ps []) (tk : Takes X G.W)
    (ha : PA X (e :: es) (tA G fs)) (hdb : (x == ("__debug__" : Str)) = false := by decide) (he : starEach (e :: es) X.env = (false, eval e X.env) :: starEach es X.env := by rfl) (hpl : (backTo pos (starEach es X.env)).any (·.1) = false := by rfl) :
    PE X (.Call (.Name x p) (e :: es) [] pos) (tE G (fCall F fs)) := (pe_callS Fo hr hg hm hk hb (fun σ => passAt tk σ) ha hdb he hpl).imp (call_run rfl hn)
@[simp] def callLM (F : List PyData → Out Rt) (ds : List PyData) : M (List PyData) := fun ρ => match F ds with
  | .ok (.ow es) => .ok (es, ρ)
  | .ok _ => .bad
  | .exc c => .exc c ρ
  | .bad => .bad
@[simp] def fCallL (F : List PyData → Out Rt) (fs : M (List PyData)) : M (List PyData) := fun ρ => (bnd fs (callLM F)) ρ
theorem callL_run {cA : Str → Addr} {n : Nat} {F : List PyData → Out Rt} (hcA : G.cA = cA) (hn : ∀ ds r, F ds = r → r ≠ .bad → ds.length = n) (σ : St) (H : Hp) (Q : VK) (h : tL G (fCallL F fs) σ H Q) : tCallS (spP cA n F) (WE G.W) (tA G fs) σ H Q := by
  obtain ⟨Hf, ρ, rp, af⟩ := h
  refine (stepL rp af).mono fun vs H1 ⟨ds, Hf1, ρ1, n1, ra, af1⟩ => ?_
  have hl : vs.length = n := by
    rw [repA_len ra]
    refine hn ds _ rfl fun z => ?_
    unfold callLM at af1
    rw [z] at af1
    exact af1
  refine ⟨hl, Hf1, ds, n1.rp.sb, ra, ?_⟩
  unfold callLM at af1
  cases e : F ds with
  | bad => rw [e] at af1; exact af1.elim
  | exc c =>
    rw [e] at af1
    subst hcA
    exact fun H' s => af1 Hf1 H' (nxt_call n1.rp (Same.refl _) (n1.rp.sb.later s) s fun a z => .inl z)
  | ok r =>
    rw [e] at af1
    cases r with
    | fz d => exact False.elim af1
    | ow es =>
      intro v Hf' H' h1 h2 h3 h4 ⟨p, us, ev, g1, g2, g3, g4⟩
      subst ev
      have nn := nxt_call (q := G.q) n1.rp h1 h2 h3 h4
      exact af1 p us Hf' H' nn (.inl g1) g2 (notOwn_call n1.rp h3 g1) g3 g4
    | tr t => exact False.elim af1
theorem fl_call {F : List PyData → Out Rt} {n : Nat} (hn : ∀ ds r, F ds = r → r ≠ .bad → ds.length = n) (Fo : FnOk X.prog X.w X.K X.mg X.base (L2.CX X.prog X.w) k fa fd ps (spP G.cA n F)) (hr : Room k X.A) (hg : Gl X x) (hm : X.mg x = some (.ref fa)) (hk : PySem.W.keepIn X.K (.ref fa) = true) (hb : Binds X.K fd ps []) (tk : Takes X G.W)
    (ha : PA X (e :: es) (tA G fs)) (hdb : (x == ("__debug__" : Str)) = false := by decide) (he : starEach (e :: es) X.env = (false, eval e X.env) :: starEach es X.env := by rfl) (hpl : (backTo pos (starEach es X.env)).any (·.1) = false := by rfl) :
    PE X (.Call (.Name x p) (e :: es) [] pos) (tL G (fCallL F fs)) := (pe_callS Fo hr hg hm hk hb (fun σ => passAt tk σ) ha hdb he hpl).imp (callL_run rfl hn)
@[simp] def callIM (i : Nat) (F : List PyData → List PyData → Out (Rt × List PyData)) (ds : List PyData) : M Rt := fun ρ => match (ρ[i]? : Option Sl) with
  | some (.ow io) => (match F io ds with
    | .ok (r, io') => .ok (r, ρ.set i (.ow io'))
    | .exc c => .exc c (ρ.set i .un)
    | .bad => .bad)
  | _ => .bad
@[simp] def fCallI (i : Nat) (F : List PyData → List PyData → Out (Rt × List PyData)) (fs : M (List PyData)) : M PyData := fun ρ => if isOw i ρ then bnd fs (fun ds => bnd (callIM i F ds) fun r => opt (rtD r)) ρ else .bad
theorem nxt_callI {q : Bool} {σ : St} {ρ : Rho} {Hf H Hf' H' : Hp} {i : Nat} {p : Addr} {io io' : List PyData} {zs : List V} (rp : Rp Hf H σ ρ) (hi : ρ[i]? = some (.ow io)) (hs : σ[i]? = some (some (.ref p))) (h1 : Same Hf Hf') (h2 : Sb Hf' H') (h3 : ∀ a o, H a = some o → NT o → a ≠ p → H' a = some o) (dm : ∀ a, H' a = none → H a = none) (h4 : ∀ a, Hf a = none → Hf' a = none ∨ H a = none) (h5 : Hf' p = none) (h6 : H' p = some (.lst zs)) (h7 : RepA Hf' zs io') : Nxt q σ ρ Hf H σ (ρ.set i (.ow io')) Hf' H' :=
  rp.chgO hi hs (.inr ⟨_, rfl⟩) h1 h2.sm h2.tb h2.nt h3 dm (fun a z => (h4 a z).imp id .inl) ⟨h5, zs, h6, h7⟩
theorem nxt_dropI {q : Bool} {σ : St} {ρ : Rho} {Hf H H' : Hp} {i : Nat} {p : Addr} {io : List PyData} (rp : Rp Hf H σ ρ) (hi : ρ[i]? = some (.ow io)) (hs : σ[i]? = some (some (.ref p))) (h3 : ∀ a o, H a = some o → NT o → a ≠ p → H' a = some o) (dm : ∀ a, H' a = none → H a = none) (tb : Tb H') : Nxt q σ ρ Hf H σ (ρ.set i .un) Hf H' := by
  have hp := (rp.ownI ((ownI_ow hi hs).mpr rfl)).1
  exact rp.chgO hi hs (.inl True.intro) (Same.refl _) (fun a o h => h3 a o (rp.sub _ _ h) (fun ps z => rp.nt a ps (by rw [h, z])) (ne_of_none h hp)) tb rp.nt h3 dm (fun a z => .inl z) slok_un
theorem callI_run {cA : Str → Addr} {n i : Nat} {F : List PyData → List PyData → Out (Rt × List PyData)} (hcA : G.cA = cA) (hn : ∀ io ds r, F io ds = r → r ≠ .bad → ds.length + 1 = n) (σ : St) (H : Hp) (Q : VK) (h : tE G (fCallI i F fs) σ H Q) : tCallS (spI cA n F) (WE G.W) (tCons (tVar i) (tA G fs)) σ H Q := by
  obtain ⟨Hf, ρ, rp, af⟩ := h
  unfold fCallI at af
  cases e0 : isOw i ρ with
  | false => rw [e0] at af; exact False.elim af
  | true =>
    rw [e0, if_pos rfl] at af
    obtain ⟨ds0, h0⟩ := isOw_ow e0
    obtain ⟨p, vs0, s0, _, g0, _⟩ := slok_ow (rp.sl i _ h0)
    refine ⟨_, s0, (step rp af).mono fun us H1 ⟨ds, Hf1, ρ1, n1, ra, af1⟩ => ?_⟩
    show spI cA n F (V.ref p :: us) H1 Q (WE G.W σ)
    unfold bnd callIM at af1
    cases q : (ρ1[i]? : Option Sl) with
    | none => simp only [q] at af1; exact False.elim af1
    | some sl =>
      cases sl with
      | un => simp only [q] at af1; exact False.elim af1
      | raw _ => simp only [q] at af1; exact False.elim af1
      | tr _ => simp only [q] at af1; exact False.elim af1
      | lk _ => simp only [q] at af1; exact False.elim af1
      | pa _ _ => simp only [q] at af1; exact False.elim af1
      | fz _ => simp only [q] at af1; exact False.elim af1
      | ow io =>
        simp only [q] at af1
        obtain ⟨p', ws, s1, f1, g1, r1⟩ := slok_ow (n1.rp.sl i _ q)
        rw [s0] at s1
        cases s1
        have hl : (V.ref p :: us).length = n := by
          rw [List.length_cons, repA_len ra]
          refine hn io ds _ rfl fun z => ?_
          rw [z] at af1
          exact af1
        refine ⟨hl, Hf1, p, ws, us, io, ds, rfl, n1.rp.sb, f1, g1, r1, ra, ?_⟩
        cases e : F io ds with
        | bad => rw [e] at af1; exact False.elim af1
        | exc c =>
          rw [e] at af1
          subst hcA
          exact fun H' s dm t => af1 Hf1 H' (nxt_dropI n1.rp q s0 s dm t)
        | ok rr =>
          obtain ⟨r, io'⟩ := rr
          rw [e] at af1
          intro v Hf' H' zs h1 h2 h3 dm h4 h5 h6 h7 h8
          have nn := nxt_callI (q := G.q) n1.rp q s0 h1 h2 h3 dm h4 h5 h6 h7
          cases r with
          | fz d => exact af1 v Hf' H' nn h8
          | ow es =>
            obtain ⟨p2, us2, rfl, k1, k2, k3, k4⟩ := h8
            have no : ¬ OwnA H' σ (ρ1.set i (.ow io')) p2 := fun ⟨j, z⟩ => by
              by_cases w : j = i
              · subst w
                have hlt : j < ρ1.length := (List.getElem?_eq_some_iff.mp q).1
                have e0 := (ownI_ow (ds := io') (by rw [List.getElem?_set, if_pos rfl, if_pos hlt]) s0).mp z
                subst e0
                rw [g1] at k1
                cases k1
              · obtain ⟨s, v, e1, e2, o⟩ := z
                rw [List.getElem?_set, if_neg fun y => w y.symm] at e1
                refine n1.rp.notOwn k1 ⟨j, (n1.rp.ownI_iff (fun b y => ?_) p2).mp ⟨s, v, e1, e2, o⟩⟩
                obtain ⟨u, hu, tu⟩ := (n1.rp.ownI y).2
                rw [hu]
                exact h3 b u hu tu fun e0 => w (n1.rp.nd j i b y ((ownI_ow q s0).mpr e0))
            obtain ⟨n2, r2⟩ := nn.take (.inl k1) k2 no k3 k4
            exact af1 _ _ _ n2 r2
          | tr t => exact False.elim af1
theorem fe_callI (i : Nat) {y : Str} {p1 : Pos} {F : List PyData → List PyData → Out (Rt × List PyData)} {n : Nat} (hn : ∀ io ds r, F io ds = r → r ≠ .bad → ds.length + 1 = n) (Fo : FnOk X.prog X.w X.K X.mg X.base (L2.CX X.prog X.w) k fa fd ps (spI G.cA n F)) (hr : Room k X.A) (hg : Gl X x) (hm : X.mg x = some (.ref fa)) (hk : PySem.W.keepIn X.K (.ref fa) = true) (hb : Binds X.K fd ps []) (tk : Takes X G.W)
    (ha : PA X es (tA G fs)) (hN : X.N[i]? = some y := by rfl) (hv : Vis X.env.scope y := by first | exact Or.inl rfl | exact Or.inr (Or.inl rfl) | exact Or.inr (Or.inr rfl)) (hd : (y == ("__debug__" : Str)) = false := by decide)
    (hcd : (y == ("__classdict__" : Str)) = false := by decide) (hdb : (x == ("__debug__" : Str)) = false := by decide) (he : starEach (.Name y p1 :: es) X.env = (false, eval (.Name y p1) X.env) :: starEach es X.env := by rfl) (hpl : (backTo pos (starEach es X.env)).any (·.1) = false := by rfl) :
    PE X (.Call (.Name x p) (.Name y p1 :: es) [] pos) (tE G (fCallI i F fs)) := (pe_callS Fo hr hg hm hk hb (fun σ => passAt tk σ) (pa_cons (pe_var hN hv hd hcd) ha he) hdb he hpl).imp (callI_run rfl hn)
end
end Fx
namespace Fx
open PySem L2
variable [Tabz]
section
variable {X : Cx} {G : Gx} {e a b : Expr} {es : List Expr} {f g : M PyData} {fs : M (List PyData)} {pos : Pos} {tg : Expr} {pn : List Nat} {st : Stmt} {sts : List Stmt} {s t : Rho → Fl} {A B : Opd} {As : List Opd}
mutual
theorem rep_dp {K : PySem.W.Frag} {H : Hp} : ∀ {v : V} {d : PyData}, d.canLay0 = true → Rep H v d → Dp K H v d
  | _, _, _, .non => .non
  | _, _, _, .bl b => .bl b
  | _, _, _, .int i => .int i
  | _, _, _, .str x => .str x
  | _, _, z, .lst h r => .lst (SqL.of h) (repA_dp z r)
  | _, _, z, .tup h r => .tup (SqT.of h) (repA_dp z r)
  | _, _, z, .ins _ _ _ => Bool.noConfusion z
  | _, _, z, .dct _ _ _ => Bool.noConfusion z
theorem repA_dp {K : PySem.W.Frag} {H : Hp} : ∀ {v : List V} {d : List PyData}, PyData.canLayAll0 d = true → RepA H v d → DpAll K H v d
  | _, _, _, .nil => .nil
  | _, _, z, .cons h r => .cons (rep_dp (Bool.and_eq_true_iff.mp z).1 h) (repA_dp (Bool.and_eq_true_iff.mp z).2 r)
end
theorem rep_dps {K : PySem.W.Frag} {H : Hp} {v : V} {d : PyData} (h : SeqAt.shaped d = true) (r : Rep H v d) : Dp K H v d := rep_dp (SeqAt.canLay_of_shaped h) r
def oEQ : PyData → PyData → Option PyData
  | .int i, .int j => some (.bool (decide (i = j)))
  | .str i, .str j => some (.bool (decide (i = j)))
  | .bool i, .bool j => some (.bool (decide (i = j)))
  | a, b => if SeqAt.shaped a && SeqAt.shaped b then some (.bool (PyData.eqv a b)) else none
def oNE : PyData → PyData → Option PyData
  | .int i, .int j => some (.bool (!decide (i = j)))
  | .str i, .str j => some (.bool (!decide (i = j)))
  | .bool i, .bool j => some (.bool (!decide (i = j)))
  | a, b => if SeqAt.shaped a && SeqAt.shaped b then some (.bool (!PyData.eqv a b)) else none
theorem op_or {F : Value → Value → Sem Value} {r r' : R2} (h : OpR X F r) (h' : OpR X F r') : OpR X F (fun x y H Q => r x y H Q ∨ r' x y H Q) := fun pins s σ H x y v u Q I rx ry q => q.elim (h pins s σ H x y v u Q I rx ry) (h' pins s σ H x y v u Q I rx ry)
theorem rd_EQ {K : PySem.W.Frag} : RdO (fun x y H Q => rEq x y H Q ∨ rEqD K x y H Q) oEQ := by
  intro Hf H x y a b d sm ha hb e
  unfold oEQ at e
  split at e
  · obtain ⟨v, h1, h2⟩ := rd_eq Hf H x y _ _ d sm ha hb e
    exact ⟨v, h1, fun Q q => .inl (h2 Q q)⟩
  · obtain ⟨v, h1, h2⟩ := rd_eq Hf H x y _ _ d sm ha hb e
    exact ⟨v, h1, fun Q q => .inl (h2 Q q)⟩
  · obtain ⟨v, h1, h2⟩ := rd_eq Hf H x y _ _ d sm ha hb e
    exact ⟨v, h1, fun Q q => .inl (h2 Q q)⟩
  · split at e
    · rename_i hs
      cases e
      exact ⟨_, .bl _, fun Q q => .inr ⟨_, _, rep_dps (Bool.and_eq_true_iff.mp hs).1 (ha.full sm), rep_dps (Bool.and_eq_true_iff.mp hs).2 (hb.full sm), (Bool.and_eq_true_iff.mp hs).1, (Bool.and_eq_true_iff.mp hs).2, q⟩⟩
    · cases e
theorem rd_NE {K : PySem.W.Frag} : RdO (fun x y H Q => rNe x y H Q ∨ rNeD K x y H Q) oNE := by
  intro Hf H x y a b d sm ha hb e
  unfold oNE at e
  split at e
  · obtain ⟨v, h1, h2⟩ := rd_ne Hf H x y _ _ d sm ha hb e
    exact ⟨v, h1, fun Q q => .inl (h2 Q q)⟩
  · obtain ⟨v, h1, h2⟩ := rd_ne Hf H x y _ _ d sm ha hb e
    exact ⟨v, h1, fun Q q => .inl (h2 Q q)⟩
  · obtain ⟨v, h1, h2⟩ := rd_ne Hf H x y _ _ d sm ha hb e
    exact ⟨v, h1, fun Q q => .inl (h2 Q q)⟩
  · split at e
    · rename_i hs
      cases e
      exact ⟨_, .bl _, fun Q q => .inr ⟨_, _, rep_dps (Bool.and_eq_true_iff.mp hs).1 (ha.full sm), rep_dps (Bool.and_eq_true_iff.mp hs).2 (hb.full sm), (Bool.and_eq_true_iff.mp hs).1, (Bool.and_eq_true_iff.mp hs).2, q⟩⟩
    · cases e
theorem op_EQ (hu : X.A.units + 64 < cLine) : OpR X (compareOp .Eq) (fun x y H Q => rEq x y H Q ∨ rEqD X.K x y H Q) := op_or op_eq (op_eqD hu)
theorem op_NE (hu : X.A.units + 64 < cLine) : OpR X (compareOp .NotEq) (fun x y H Q => rNe x y H Q ∨ rNeD X.K x y H Q) := op_or op_ne (op_neD hu)
def oIn : PyData → PyData → Option PyData
  | a, .list ds => if SeqAt.shaped a && SeqAt.shaped (.list ds) then some (.bool (ds.any fun z => PyData.eqv z a)) else none
  | _, _ => none
@[simp] def finM {α : Type} (A : Opd) (a : PyData) (As : List Opd) (as : List PyData) (k : PyData → List PyData → Option α) : M α := fun ρ => match A.at a ρ with
  | some x => (match atAll As as ρ with
    | some xs => opt (k x xs) ρ
    | none => .bad)
  | none => .bad
@[simp] def isL : Option PyData → Bool
  | some (.list _) => true
  | _ => false
@[simp] def fBM (o : PyData → List PyData → Option PyData) (A : Opd) (As : List Opd) : M PyData := fun ρ => (bnd A.go fun a ρ => if isL (A.at a ρ) then bnd (goAll As) (fun as => finM A a As as o) ρ else .bad) ρ
def RdM (r : V → List V → Hp → VK → Prop) (o : PyData → List PyData → Option PyData) : Prop := ∀ (Hf H : Hp) (x : V) (xs : List V) (a : PyData) (as : List PyData) (d : PyData), Same Hf H → R1 Hf H x a → R1A Hf H xs as → o a as = some d → ∃ v, Rep Hf v d ∧ ∀ Q : VK, Q v H → r x xs H Q
theorem finM_some {α β : Type} {R : Hp → β → α → Prop} {σ : St} {ρ : Rho} {Hf H : Hp} {Q : β → Hp → Prop} {a : PyData} {as : List PyData} {k : PyData → List PyData → Option α} (af : AfG G R σ ρ Hf H Q (finM A a As as k ρ)) : ∃ x xs, A.at a ρ = some x ∧ atAll As as ρ = some xs ∧ AfG G R σ ρ Hf H Q (opt (k x xs) ρ) := by
  unfold finM at af
  cases e1 : A.at a ρ with
  | none => rw [e1] at af; exact af.elim
  | some x =>
    rw [e1] at af
    cases e2 : atAll As as ρ with
    | none => simp only [e2] at af; exact False.elim af
    | some y =>
      simp only [e2] at af
      exact ⟨x, y, rfl, rfl, af⟩
def tyName : PyData → String
  | .none => "NoneType"
  | .bool _ => "bool"
  | .int _ => "int"
  | .str _ => "str"
  | .list _ => "list"
  | .tuple _ => "tuple"
  | .dict _ => "dict"
def isTyN (n T : String) : Bool := n == T || (n == "bool" && T == "int")
def isTy (d : PyData) (T : String) : Bool := isTyN (tyName d) T
def isDc : PyData → Bool
  | .dict _ => true
  | _ => false
@[simp] theorem isDc_n : isDc .none = false := rfl
@[simp] theorem isDc_b {x : Bool} : isDc (.bool x) = false := rfl
@[simp] theorem isDc_i {x : Int} : isDc (.int x) = false := rfl
@[simp] theorem isDc_s {x : Str} : isDc (.str x) = false := rfl
@[simp] theorem isDc_l {x : List PyData} : isDc (.list x) = false := rfl
@[simp] theorem isDc_t {x : List PyData} : isDc (.tuple x) = false := rfl
theorem rep_ty {K : PySem.W.Frag} {H : Hp} {v : V} {d : PyData} (nd : isDc d = false) (h : Rep H v d) : TyX K H v (.type (tyName d)) := by
  cases h with
  | non => exact .base .non
  | bl b => exact .base (.bl b)
  | int i => exact .base (.int i)
  | str x => exact .base (.str x)
  | lst h _ => exact .base (.lst h)
  | tup h _ => exact .base (.tup h)
  | ins _ _ _ => cases nd
  | dct _ _ _ => cases nd
def tyOk (T : String) : Bool := T == "bool" || T == "int" || T == "str" || T == "list" || T == "tuple"
theorem kit_at {K : PySem.W.Frag} {d : PyData} {T : String} (hT : tyOk T = true) (hd : ∀ kvs, d ≠ .dict kvs) : PySem.W.kitOne K (.type (tyName d)) (.type T) = some (isTy d T) := by
  have h5 : T = "bool" ∨ T = "int" ∨ T = "str" ∨ T = "list" ∨ T = "tuple" := by
    unfold tyOk at hT
    simp only [Bool.or_eq_true, beq_iff_eq] at hT
    rcases hT with (((h | h) | h) | h) | h
    · exact .inl h
    · exact .inr (.inl h)
    · exact .inr (.inr (.inl h))
    · exact .inr (.inr (.inr (.inl h)))
    · exact .inr (.inr (.inr (.inr h)))
  have h6 : ∀ n : String, (n = "NoneType" ∨ n = "bool" ∨ n = "int" ∨ n = "str" ∨ n = "list" ∨ n = "tuple") → PySem.W.kitOne K (.type n) (.type T) = some (isTyN n T) := by
    intro n hn
    rcases hn with rfl | rfl | rfl | rfl | rfl | rfl <;> rcases h5 with rfl | rfl | rfl | rfl | rfl <;> exact kit_ty (by decide +kernel)
  refine h6 _ ?_
  cases d with
  | dict kvs => exact absurd rfl (hd kvs)
  | none => exact .inl rfl
  | bool b => exact .inr (.inl rfl)
  | int b => exact .inr (.inr (.inl rfl))
  | str b => exact .inr (.inr (.inr (.inl rfl)))
  | list b => exact .inr (.inr (.inr (.inr (.inl rfl))))
  | tuple b => exact .inr (.inr (.inr (.inr (.inr rfl))))
theorem isDc_nd {d : PyData} (h : isDc d = false) : ∀ kvs, d ≠ .dict kvs := fun kvs z => by
  subst z; cases h
@[simp] def oIs (T : String) (d : PyData) : Option PyData := if isDc d = true then none else some (.bool (isTy d T))
theorem fe_isi {T : String} {x : Str} {p q : Pos} (hT : tyOk T = true) (hg : Gl X "isinstance") (hm : X.mg "isinstance" = none) (hgx : Gl X x) (hmx : X.mg x = none) (hx : bootBuiltins x = some (.type T)) (ha : PE X a (A.t G)) (hnx : x ≠ "__name__" := by decide) (hdx : (x == ("__debug__" : Str)) = false := by decide)
    (he : starEach [a, .Name x q] X.env = (false, eval a X.env) :: starEach [.Name x q] X.env := by rfl) (he2 : starEach [.Name x q] X.env = (false, eval (.Name x q) X.env) :: starEach [] X.env := by rfl) (hpl : (backTo pos (starEach [.Name x q] X.env)).any (·.1) = false := by rfl) :
    PE X (.Call (.Name "isinstance" p) [a, .Name x q] [] pos) (tE G (fUn (oIs T) A)) := by
  refine (pe_callB call_isi hg hm (by decide +kernel) (pa_cons ha (pa_cons (pe_bltn (v := .ty T) hgx hmx hx rfl hnx hdx) pa_nil he2) he) (by decide) (by decide) he hpl).imp fun σ H Q ⟨Hf, ρ, rp, af⟩ => ?_
  refine Opd.run (stepO rp af) fun y H1 ⟨d, Hf1, ρ1, n1, ra, af1⟩ => ?_
  obtain ⟨a', ea, af2⟩ := fin1_some af1
  cases nd : isDc a' with
  | true => simp [nd] at af2; exact False.elim af2
  | false =>
  simp only [oIs, nd, Bool.false_eq_true, if_false] at af2
  have r1 := Opd.end n1.rp ra ea
  exact ⟨y, .ty T, .type (tyName a'), .type T, isTy a' T, rfl, .ty T, rep_ty nd (r1.full n1.rp.sub), kit_at hT (isDc_nd nd), fin (R := Rep) n1.rp af2 (.bl _)⟩
@[simp] def oIs2 (T U : String) (d : PyData) : Option PyData := if isDc d = true then none else some (.bool (isTy d T || isTy d U))
theorem fe_isi2 {T U : String} {x y : Str} {p q q2 q3 : Pos} {k : Nat} (hT : tyOk T = true) (hU : tyOk U = true) (hg : Gl X "isinstance") (hm : X.mg "isinstance" = none) (hgx : Gl X x) (hmx : X.mg x = none) (hx : bootBuiltins x = some (.type T)) (hgy : Gl X y) (hmy : X.mg y = none) (hy : bootBuiltins y = some (.type U)) (ha : PE X a (A.t G)) (hnx : x ≠ "__name__" := by decide) (hdx : (x == ("__debug__" : Str)) = false := by decide) (hny : y ≠ "__name__" := by decide) (hdy : (y == ("__debug__" : Str)) = false := by decide)
    (he : starEach [a, .Tuple [.Name x q, .Name y q2] k q3] X.env = (false, eval a X.env) :: starEach [.Tuple [.Name x q, .Name y q2] k q3] X.env := by rfl) (he2 : starEach [.Tuple [.Name x q, .Name y q2] k q3] X.env = (false, eval (.Tuple [.Name x q, .Name y q2] k q3) X.env) :: starEach [] X.env := by rfl)
    (he3 : starEach [.Name x q, .Name y q2] X.env = (false, eval (.Name x q) X.env) :: starEach [.Name y q2] X.env := by rfl) (he4 : starEach [.Name y q2] X.env = (false, eval (.Name y q2) X.env) :: starEach [] X.env := by rfl) (hpl : (backTo pos (starEach [.Tuple [.Name x q, .Name y q2] k q3] X.env)).any (·.1) = false := by rfl) :
    PE X (.Call (.Name "isinstance" p) [a, .Tuple [.Name x q, .Name y q2] k q3] [] pos) (tE G (fUn (oIs2 T U) A)) := by
  refine (pe_callB call_isiT hg hm (by decide +kernel) (pa_cons ha (pa_cons (pe_tup (pa_cons (pe_bltn (v := .ty T) hgx hmx hx rfl hnx hdx) (pa_cons (pe_bltn (v := .ty U) hgy hmy hy rfl hny hdy) pa_nil he4) he3)) pa_nil he2) he) (by decide) (by decide) he hpl).imp fun σ H Q ⟨Hf, ρ, rp, af⟩ => ?_
  refine Opd.run (stepO rp af) fun y H1 ⟨d, Hf1, ρ1, n1, ra, af1⟩ => ?_
  obtain ⟨a', ea, af2⟩ := fin1_some af1
  cases nd : isDc a' with
  | true => simp [nd] at af2; exact False.elim af2
  | false =>
  simp only [oIs2, nd, Bool.false_eq_true, if_false] at af2
  have r1 := Opd.end n1.rp ra ea
  refine ⟨by show 2 ≤ sizeLine; decide, fun tp htp => ?_⟩
  have sm : Same Hf1 (upd H1 tp (.tup [.ty T, .ty U])) := n1.rp.sub.trans (same_new htp)
  have ty : TyX X.K (upd H1 tp (.tup [.ty T, .ty U])) y (.type (tyName a')) := rep_ty nd (rep_same (same_new htp) (r1.full n1.rp.sub))
  refine ⟨y, tp, [.ty T, .ty U], .type (tyName a'), [.type T, .type U], isTy a' T || isTy a' U, rfl, upd_same, .cons (.ty T) (.cons (.ty U) .nil), ty, ?_, ?_⟩
  · refine kitAny_cons (kit_at hT (isDc_nd nd)) (fun h => ?_) fun h => by rw [h]; rfl
    rw [h, Bool.false_or]
    refine kitAny_cons (kit_at hU (isDc_nd nd)) (fun h => ?_) fun h => h
    rw [h]
    exact kitAny_nil
  · exact AfG.new (R := Rep) n1.rp af2 htp (.bl _)
end
end Fx
namespace Fx
open PySem L2
variable [Tabz]
theorem Rp.putS {Hf H : Hp} {σ : St} {ρ : Rho} (rp : Rp Hf H σ ρ) {i : Nat} {o : Option V} {sl : Sl} (hn : Hless sl) (r : SlOk Hf H (some o) sl) : Nxt false σ ρ Hf H (σ.set i o) (ρ.set i sl) Hf H := by
  refine rp.weak (by rw [List.length_set, List.length_set]; exact rp.len) fun j s h => ?_
  rw [List.getElem?_set] at h
  by_cases q : i = j
  · subst q
    rw [if_pos rfl] at h
    split at h
    · rename_i hl
      cases h
      refine .inr ⟨hn, ?_⟩
      rw [List.getElem?_set, if_pos rfl, if_pos (Nat.lt_of_lt_of_le hl rp.len)]
      exact r
    · cases h
  · rw [if_neg q] at h
    exact .inl ⟨h, by rw [List.getElem?_set, if_neg q]⟩
noncomputable def allA (post : Addr → Fl) : Fl := @ite _ (∀ a, post a = post 0) (Classical.propDecidable _) (post 0) .bad
theorem allA_const {x : Fl} : allA (fun _ => x) = x := by
  unfold allA
  exact @if_pos _ (Classical.propDecidable _) (fun _ => rfl) _ _ _
theorem allA_of {post : Addr → Fl} {x : Fl} (h : ∀ a, post a = x) : allA post = x := by
  have e : post = fun _ => x := funext h
  rw [e, allA_const]
section
variable {X : Cx} {G : Gx} {e a b : Expr} {es : List Expr} {f g : M PyData} {fs : M (List PyData)} {pos : Pos} {tg : Expr} {pn : List Nat} {st : Stmt} {sts : List Stmt} {s t : Rho → Fl} {A B : Opd} {As : List Opd}
theorem allA_at {σ : St} {ρ : Rho} {Hf H : Hp} {D : Ends} {post : Addr → Fl} (h : AfS G pn σ ρ Hf H D (allA post)) (x : Addr) : AfS G pn σ ρ Hf H D (post x) := by
  by_cases q : ∀ a, post a = post 0
  · rw [q x]
    have e : allA post = post 0 := allA_of q
    rw [← e]
    exact h
  · have e : allA post = .bad := @if_neg _ (Classical.propDecidable _) q _ _ _
    rw [e] at h
    exact h.elim
@[simp] def leave (i : Nat) : Fl → Fl
  | .nx ρ => .nx (ρ.set i .un)
  | .brk ρ => .brk (ρ.set i .un)
  | .ct ρ => .ct (ρ.set i .un)
  | .ret r ρ => .ret r (ρ.set i .un)
  | _ => .bad
noncomputable def sTryAs (m : Str → Option Bool) (i : Nat) (sb : Rho → Fl) (su : Str → Addr → Rho → Fl) : Rho → Fl := fun ρ => match sb ρ with
  | .exc c ρ1 => (match m c with
    | some true => allA fun a => leave i (su c a (ρ1.set i (.raw (.ref a))))
    | some false => .exc c ρ1
    | none => .bad)
  | x => x
theorem AfS.same {G G' : Gx} {σ : St} {ρ : Rho} {Hf H : Hp} {D : Ends} : ∀ {o : Fl}, (∀ c ρ, o ≠ .exc c ρ) → AfS G pn σ ρ Hf H D o → AfS G' pn σ ρ Hf H D o
  | .nx _, _, h => h
  | .brk _, _, h => h
  | .ct _, _, h => h
  | .ret _ _, _, h => h
  | .exc c ρ, n, _ => absurd rfl (n c ρ)
  | .bad, _, h => h
theorem RtOk.later {q : Bool} {σ σ1 σ2 : St} {ρ ρ1 ρ2 : Rho} {Hf H Hf1 H1 Hf2 H2 : Hp} (n : Nxt q σ ρ Hf H σ1 ρ1 Hf1 H1) {v : V} : ∀ {r : Rt}, RtOk pn σ1 ρ1 H1 σ2 ρ2 Hf2 H2 v r → RtOk pn σ ρ H σ2 ρ2 Hf2 H2 v r
  | .fz d, h => h
  | .ow ds, h => by
    obtain ⟨p, vs, e, h1, h3⟩ := h
    exact ⟨p, vs, e, h1.back n, h3⟩
  | .tr t, h => by
    obtain ⟨F, r1, r2, r3⟩ := h
    exact ⟨F, r1, r2, fun a m => ⟨(r3 a m).1.back n, (r3 a m).2⟩⟩
theorem RtOk.drop {σ σ2 : St} {ρ ρ2 : Rho} {H Hf2 H2 : Hp} {i : Nat} (rp : Rp Hf2 H2 σ2 ρ2) {v : V} : ∀ {r : Rt}, RtOk pn σ ρ H σ2 ρ2 Hf2 H2 v r → RtOk pn σ ρ H σ2 (ρ2.set i .un) Hf2 H2 v r
  | .fz d, h => h
  | .ow ds, h => by
    obtain ⟨p, vs, e, h1, h2, h3, h4, h5⟩ := h
    refine ⟨p, vs, e, h1, h2, fun z => ((rp.drop i).os _ z).elim h3 fun y => ?_, h4, h5⟩
    rw [h4] at y; cases y
  | .tr t, h => by
    obtain ⟨F, r1, r2, r3⟩ := h
    refine ⟨F, r1, r2, fun a m => ⟨(r3 a m).1, (r3 a m).2.1, fun z => ((rp.drop i).os _ z).elim (r3 a m).2.2 fun y => ?_⟩⟩
    obtain ⟨o, ho, _⟩ := r1.obj a m
    rw [ho] at y; cases y
theorem fs_tryAs {x n : Str} {C : Addr} {i : Nat} {m : Str → Option Bool} {sb : Rho → Fl} {su : Str → Addr → Rho → Fl} {body suite : List Stmt} {b₀ : Stmt} {np pos' : Pos} (hs : X.stack = X.env :: X.outer) (hf : X.env.frame = some X.env.locals) (hN : X.N.Nodup) (hi : X.N[i]? = some n) (hln : X.env.kindOf n = some .local) (hC : Names X x (.ref C)) (tk : Takes X G.W) (hpn : i ∉ pn)
    (hm : ∀ c b, m c = some b → PySem.W.exmOne X.K (.ref (G.cA c)) (.ref C) = some b)
    (hb : ∀ (W : WX) (pp : List (Addr × Obj)) (xe : Value → Shared → Prop), Takes (X.tr pp xe) W → PassesOwn (model X.prog X.w) X.A X.env xe → PSs (X.tr pp xe) body (tS ⟨W, G.cA, false⟩ pn sb))
    (hsu : ∀ (c : Str) (a : Addr) (oe : Obj) (pp : List (Addr × Obj)), Zc (.ref (G.cA c)) none oe → (∃ vs, oe.data = .fields vs) → PSs (X.suite a ((a, oe) :: pp)) (b₀ :: suite) (tS (G0 G) pn (su c a))) :
    PS X (.Try body [.ExceptHandler (some (.Name x np)) (some n) (b₀ :: suite) pos'] [] [] pos) (tS G pn (sTryAs m i sb su)) := by
  refine (ps_try_as (i := i) (Wout := G.W) (tb := fun W => tS ⟨W, G.cA, false⟩ pn sb) (ts := fun a cls d D σ H => ∃ c, cls = .ref (G.cA c) ∧ d = none ∧ tS (G0 G) pn (su c a) D σ H) hs hf hN hi hln hC tk hb (fun a oe cls d pp hz hv => ?_)).imp fun D σ H ⟨Hf, ρ, rp, af⟩ => ⟨Hf, ρ, rp, ?_⟩
  · refine ⟨fun pins s σ H D I ⟨c, e1, e2, h⟩ => ?_⟩
    subst e1 e2
    exact (hsu c a oe pp hz hv).run pins s σ H D I h
  · unfold sTryAs at af
    cases eb : sb ρ with
    | nx ρ1 => rw [eb] at af; exact af
    | brk ρ1 => rw [eb] at af; exact af
    | ct ρ1 => rw [eb] at af; exact af
    | ret r ρ1 => rw [eb] at af; exact af
    | bad => rw [eb] at af; exact af
    | exc c ρ1 =>
      rw [eb] at af
      dsimp only at af
      intro σ1 Hf1 H1 n1 p1
      cases em : m c with
      | none => rw [em] at af; exact af.elim
      | some bb =>
        rw [em] at af
        refine ⟨bb, hm c bb em, fun hb1 x hx => ?_, fun hb0 => ?_⟩
        · subst hb1
          dsimp only at af
          have af2 := allA_at af x
          have n2 := n1.trans (n1.rp.putS (i := i) (o := some (.ref x)) (sl := .raw (.ref x)) True.intro (slok_raw.mpr rfl))
          refine ⟨c, rfl, rfl, Hf1, ρ1.set i (.raw (.ref x)), n2.rp, ?_⟩
          have p2 : Pin pn σ (σ1.set i (some (.ref x))) := p1.trans (pin_set hpn)
          cases es : su c x (ρ1.set i (.raw (.ref x))) with
          | nx ρ3 => rw [es] at af2; exact fun σ3 Hf3 H3 n3 p3 => af2 _ Hf3 H3 ((n2.trans n3).trans (n3.rp.putS (i := i) (o := none) (sl := .un) True.intro slok_un)) ((p2.trans p3).trans (pin_set hpn))
          | brk ρ3 => rw [es] at af2; exact fun σ3 Hf3 H3 n3 p3 => af2 _ Hf3 H3 ((n2.trans n3).trans (n3.rp.putS (i := i) (o := none) (sl := .un) True.intro slok_un)) ((p2.trans p3).trans (pin_set hpn))
          | ct ρ3 => rw [es] at af2; exact fun σ3 Hf3 H3 n3 p3 => af2 _ Hf3 H3 ((n2.trans n3).trans (n3.rp.putS (i := i) (o := none) (sl := .un) True.intro slok_un)) ((p2.trans p3).trans (pin_set hpn))
          | ret r ρ3 =>
            rw [es] at af2
            intro v σ3 Hf3 H3 n3 p3 hr
            refine af2 v σ3 Hf3 H3 ((n2.trans n3).trans (n3.rp.drop i)) (p2.trans p3) ?_
            exact (RtOk.later n2 hr).drop n3.rp
          | exc c3 ρ3 => rw [es] at af2; exact False.elim af2
          | bad => rw [es] at af2; exact False.elim af2
        · subst hb0
          exact af σ1 Hf1 H1 n1 p1
@[simp] def fIsE (i : Nat) (x : Addr) (r : Bool) : M PyData := fun ρ => match (ρ[i]? : Option Sl) with
  | some (.raw v) => if v = .ref x then .ok (.bool r, ρ) else .bad
  | _ => .bad
theorem fe_isE {i : Nat} {x : Addr} {oe : Obj} {pp : List (Addr × Obj)} {D : Addr} {n y : Str} {p q q2 : Pos} {cv : V} {cu : Value} {r : Bool} (C : ExcC X.K D) (hz : Zc (.ref D) none oe) (hf : ∃ vs, oe.data = .fields vs) (hg : Gl (X.suite x ((x, oe) :: pp)) "isinstance") (hm : X.mg "isinstance" = none)
    (hn : PE (X.suite x ((x, oe) :: pp)) (.Name n q) (tVar i)) (hy : PE (X.suite x ((x, oe) :: pp)) (.Name y q2) (tC cv)) (hcv : ∀ u, RelV cv u → u = cu) (hk : PySem.W.kitOne X.K (.ref D) cu = some r)
    (he : starEach [.Name n q, .Name y q2] (X.suite x ((x, oe) :: pp)).env = (false, eval (.Name n q) (X.suite x ((x, oe) :: pp)).env) :: starEach [.Name y q2] (X.suite x ((x, oe) :: pp)).env := by rfl)
    (he2 : starEach [.Name y q2] (X.suite x ((x, oe) :: pp)).env = (false, eval (.Name y q2) (X.suite x ((x, oe) :: pp)).env) :: starEach [] (X.suite x ((x, oe) :: pp)).env := by rfl) (hpl : (backTo pos (starEach [.Name y q2] (X.suite x ((x, oe) :: pp)).env)).any (·.1) = false := by rfl) :
    PE (X.suite x ((x, oe) :: pp)) (.Call (.Name "isinstance" p) [.Name n q, .Name y q2] [] pos) (tE G (fIsE i x r)) := by
  refine (pe_callB (call_isE C hz hf) hg hm (by decide +kernel) (pa_cons hn (pa_cons hy pa_nil he2) he) (by decide) (by decide) he hpl).imp fun σ H Q ⟨Hf, ρ, rp, af⟩ => ?_
  unfold fIsE at af
  split at af
  · rename_i v e
    split at af
    · rename_i ev
      subst ev
      have h1 := slok_raw' (rp.sl i _ e)
      exact ⟨_, h1, cv, cu, r, rfl, hcv, hk, fin (R := Rep) rp af (.bl r)⟩
    · exact False.elim af
  · exact False.elim af
@[simp] def fIfL (p : M Bool) (f g : M (List PyData)) : M (List PyData) := fun ρ => (bnd p fun c => if c = true then f else g) ρ
@[simp] def sPar (i j : Nat) (f g : M PyData) : Rho → Fl := fun ρ => (sBnd (fCons f (fCons g fNil)) fun ds ρ => match ds with
  | [d1, d2] => .nx ((ρ.set i (.fz d1)).set j (.fz d2))
  | _ => .bad) ρ
end
end Fx
namespace Fx
open PySem L2
inductive Fq where
  | f (x : He.Fa)
  | xc (x : Str)
  | kx (x y : Str) (b : Bool)
  | kv (x : Str) (T : String) (b : Bool)
def Fq.ok (K : PySem.W.Frag) : Fq → Bool
  | .f x => x.ok K
  | .xc x => He.eqO (PySem.W.findIn K (.ref (He.ga K x)) "__getattribute__") (some (some (.builtin "BaseException.__getattribute__"))) && (He.eqO (PySem.W.findIn K (.ref (He.ga K x)) "__getattr__") (some none) && (decide (PySem.W.subIn K (.ref (He.ga K x)) (.type "BaseException") = some true)
      && (PySem.W.hasDictIn K (He.ga K x) && (He.eqO (PySem.W.findIn K (.ref (He.ga K x)) "__class__") (some (some (.builtin "object.__class__"))) && (He.eqO (PySem.W.specialIn K (.builtin "object.__class__") "__get__") (some (some (.builtin "getset_descriptor.__get__")))
      && (decide (PySem.W.takesIn K (.builtin "object.__class__") = some true) && decide (PySem.W.mroIn K (He.ga K x) (.type "object") = some true)))))))
  | .kx x y b => decide (PySem.W.kitOne K (.ref (He.ga K x)) (.ref (He.ga K y)) = some b)
  | .kv x T b => decide (PySem.W.kitOne K (.ref (He.ga K x)) (.type T) = some b)
def mkD (x : Str) (st : Stmt) : He.FnD := ⟨(x, none), x, x, defArgs st, defBody st, defScope st⟩
def obsQ (fa : List Fq) (fn : List He.FnD) (K : PySem.W.Frag) : He.Al := ((fa.all fun f => f.ok K) && fn.all fun d => (He.Fa.code d.at_ d.qual).ok K && PySem.W.keepIn K (.ref (He.fAd K d.at_)), fn.map fun d => He.fnObs K d.at_)
def SaysQ (fa : List Fq) (fn : List He.FnD) (K : PySem.W.Frag) : Prop := obsQ fa fn K = He.valE fn
structure TabQ (tf : List Str) (h : Heap) (K : PySem.W.Frag) : Prop where
  hd : ∀ x ∈ tf, PySem.W.codeHdIn K (He.cT K (x, none)).1 (He.cT K (x, none)).2 = true
  out : ∀ x ∈ tf, K.lookup (He.cT K (x, none)).2 = none
  empty : ∀ x ∈ tf, h.get? (He.cT K (x, none)).2 = some { cls := .none, data := .fields #[] }
  nd : (tf.map fun x => (He.cT K (x, none)).2).Nodup
def tabQB (g : Addr → Option Obj) (tf : List Str) (K : PySem.W.Frag) : Bool := He.tabsB g (tf.map fun x => (x, none)) K && decide (tf.map fun x => (He.cT K (x, none)).2).Nodup
def obsQG (n : Nat) (fa : List Fq) (fn : List He.FnD) (tf : List Str) (g : Addr → Option Obj) : He.Al × Bool := (obsQ fa fn (He.frT g (He.asG g n)), tabQB g tf (He.frT g (He.asG g n)))
theorem tabQ_of {n : Nat} {tf : List Str} {h : Heap} (e : tabQB h.get? tf (He.frT h.get? (He.asG h.get? n)) = true) : TabQ tf h (He.frT h.get? (He.asG h.get? n)) := by
  obtain ⟨h2, hn⟩ := He.ba e
  have key : ∀ x ∈ tf, PySem.W.codeHdIn (He.frT h.get? (He.asG h.get? n)) (He.cT (He.frT h.get? (He.asG h.get? n)) (x, none)).1 (He.cT (He.frT h.get? (He.asG h.get? n)) (x, none)).2 = true ∧ ∃ o, h.get? (He.cT (He.frT h.get? (He.asG h.get? n)) (x, none)).2 = some o ∧ He.emptyTab o = true := fun x hx => by
    obtain ⟨h3, h4⟩ := He.ba (List.all_eq_true.mp h2 (x, none) (List.mem_map.mpr ⟨x, hx, rfl⟩))
    refine ⟨h3, ?_⟩
    cases q : h.get? (He.cT (He.frT h.get? (He.asG h.get? n)) (x, none)).2 with
    | none => rw [q] at h4; cases h4
    | some o => rw [q] at h4; exact ⟨o, rfl, h4⟩
  exact ⟨fun x hx => (key x hx).1, fun x hx => by
    obtain ⟨_, o, q, z⟩ := key x hx
    exact He.frT_none q z, fun x hx => by
    obtain ⟨_, o, q, z⟩ := key x hx
    rw [q, He.emptyTab_eq z], of_decide_eq_true hn⟩
structure Top (fa : List Fq) (fn : List He.FnD) (K : PySem.W.Frag) (mg : Str → Option Value) : Prop where
  says : SaysQ fa fn K
  ns : ∃ h : Heap, K.In h ∧ h.Ns mainGlobals mg
def fdOf (K : PySem.W.Frag) (x : Str) : FuncData := match K.lookup (He.ga K x) with
  | some ⟨_, _, .func fd, _⟩ => fd
  | _ => PySem.W.fnOf x x (defArgs (.Pass ⟨0, 0, 0, 0⟩)) [] (defScope (.Pass ⟨0, 0, 0, 0⟩)) .none .none .none .none none .none .none
section
variable {fa : List Fq} {fn : List He.FnD} {K : PySem.W.Frag} {mg : Str → Option Value} (T : Top fa fn K mg)
include T
theorem Top.fact (i : Nat) {f : Fq} (h : fa[i]? = some f) : f.ok K = true := by
  have c1 := (He.ba (show ((fa.all fun f => f.ok K) && _) = true from congrArg (fun z : He.Al => z.1) T.says)).1
  exact List.all_eq_true.mp c1 f (List.mem_of_getElem? h)
theorem Top.free (i : Nat) {x : Str} (h : fa[i]? = some (.f (.free x)) := by rfl) : mg x = none := by
  obtain ⟨hp, X, G⟩ := T.ns
  exact He.free_ok X G (T.fact i h)
theorem Top.glo (i : Nat) {x : Str} (h : fa[i]? = some (.f (.glo x)) := by rfl) : mg x = some (.ref (He.ga K x)) := by
  obtain ⟨hp, X, G⟩ := T.ns
  exact He.glo_ok X G (T.fact i h)
theorem Top.int (i : Nat) {x : Str} {n : Int} (h : fa[i]? = some (.f (.int x n)) := by rfl) : ∃ t, mg x = some (.int n t) := by
  obtain ⟨hp, X, G⟩ := T.ns
  exact He.int_ok X G (T.fact i h)
theorem Top.str (i : Nat) {x n : Str} (h : fa[i]? = some (.f (.str x n)) := by rfl) : ∃ t, mg x = some (.str n t) := by
  obtain ⟨hp, X, G⟩ := T.ns
  exact He.str_ok X G (T.fact i h)
theorem Top.exc (i : Nat) {x : Str} (h : fa[i]? = some (.f (.exc x)) := by rfl) : PySem.W.excIn K (He.ga K x) He.veBase "ValueError.__new__" = true ∧ PySem.W.keepIn K (.ref (He.ga K x)) = true ∧ PySem.W.subIn K (.ref (He.ga K x)) (.type "BaseException") = some true ∧ PySem.W.typeIn K (.ref (He.ga K x)) = some (.type "type") := He.exc_ok (T.fact i h)
theorem Top.exm (i : Nat) {x y : Str} {b : Bool} (h : fa[i]? = some (.f (.exm x y b)) := by rfl) : PySem.W.exmOne K (.ref (He.ga K x)) (.ref (He.ga K y)) = some b := He.exm_ok (T.fact i h)
theorem Top.xc (i : Nat) {x : Str} (h : fa[i]? = some (.xc x) := by rfl) : ExcC K (He.ga K x) := by
  obtain ⟨c1, c⟩ := He.ba (T.fact i h)
  obtain ⟨c2, c⟩ := He.ba c
  obtain ⟨c3, c⟩ := He.ba c
  obtain ⟨c4, c⟩ := He.ba c
  obtain ⟨c5, c⟩ := He.ba c
  obtain ⟨c6, c⟩ := He.ba c
  obtain ⟨c7, c8⟩ := He.ba c
  exact ⟨He.eqO_ok c1, He.eqO_ok c2, of_decide_eq_true c3, c4, He.eqO_ok c5, He.eqO_ok c6, of_decide_eq_true c7, of_decide_eq_true c8⟩
theorem Top.kx (i : Nat) {x y : Str} {b : Bool} (h : fa[i]? = some (.kx x y b) := by rfl) : PySem.W.kitOne K (.ref (He.ga K x)) (.ref (He.ga K y)) = some b := of_decide_eq_true (T.fact i h)
theorem Top.kv (i : Nat) {x : Str} {U : String} {b : Bool} (h : fa[i]? = some (.kv x U b) := by rfl) : PySem.W.kitOne K (.ref (He.ga K x)) (.type U) = some b := of_decide_eq_true (T.fact i h)
theorem Top.def_ (i : Nat) {x : Str} {st : Stmt} (h : fn[i]? = some (mkD x st) := by rfl) : Fun K x x st (He.ga K x) (fdOf K x) := by
  have c2 := (He.ba (show ((fa.all fun f => f.ok K) && fn.all fun d => (He.Fa.code d.at_ d.qual).ok K && PySem.W.keepIn K (.ref (He.fAd K d.at_))) = true from congrArg (fun z : He.Al => z.1) T.says)).2
  have c3 := He.ba (List.all_eq_true.mp c2 (mkD x st) (List.mem_of_getElem? h))
  have e : fn.map (fun d => He.fnObs K d.at_) = fn.map He.FnD.val := congrArg (fun z : He.Al => z.2) T.says
  have e2 : (fn.map fun d => He.fnObs K d.at_)[i]? = (fn.map He.FnD.val)[i]? := by rw [e]
  rw [List.getElem?_map, List.getElem?_map, h] at e2
  obtain ⟨oc, od, osl, kV, doc, pm, an, cdv, ct, lk, cd⟩ := He.fn_ok (Option.some.inj e2) c3.1
  have lk2 : K.lookup (He.ga K x) = some ⟨oc, od, .func (PySem.W.fnOf x x (defArgs st) (defBody st) (defScope st) .none kV doc pm an cdv ct), osl⟩ := lk
  have efd : fdOf K x = PySem.W.fnOf x x (defArgs st) (defBody st) (defScope st) .none kV doc pm an cdv ct := by
    unfold fdOf
    rw [lk2]
  rw [efd]
  exact fun_mk lk2 cd c3.2
end
def lamQ (x : Str) : Str := x ++ ".<locals>." ++ "<lambda>"
def tzL (tf : List Str) (K : PySem.W.Frag) : List (Addr × Str) := tf.map fun x => ((He.cT K (x, none)).2, lamQ x)
@[reducible] def tzOf (tf : List Str) (K : PySem.W.Frag) : Tabz := ⟨tzL tf K, He.ga K⟩
variable [Tabz]
structure Tp (fa : List Fq) (fn : List He.FnD) (tf : List Str) (K : PySem.W.Frag) (mg : Str → Option Value) (base : Heap) : Prop extends Top fa fn K mg where
  tz : Tabz.T = tzL tf K
  ca : Tabz.cA = He.ga K
  tbs : ∀ x ∈ tf, LamX.TabB base mg (He.cT K (x, none)).1 (He.cT K (x, none)).2
  tnd : (tf.map fun x => (He.cT K (x, none)).2).Nodup
def Cal (P : Program) (w : World) (K : PySem.W.Frag) (mg : Str → Option Value) (base : Heap) (x : Str) (k : Nat) (ps : List Str) (sp : Sp) : Prop :=
  ∃ (f : Addr) (fd : FuncData), FnOk P w K mg base (L2.CX P w) k f fd ps sp ∧ mg x = some (.ref f) ∧ PySem.W.keepIn K (.ref f) = true ∧ Binds K fd ps []
def stN (n : Nat) (ds : List PyData) : Rho := ds.map Sl.fz ++ List.replicate (n - ds.length) Sl.un
def stNI (n : Nat) (io ds : List PyData) : Rho := Sl.ow io :: (ds.map Sl.fz ++ List.replicate (n - (ds.length + 1)) Sl.un)
def runP (n : Nat) (g : Rho → Fl) (m : Nat) (ds : List PyData) : Out Rt := if ds.length = m then toOut (g (stN n ds)) else .bad
def runI (n : Nat) (g : Rho → Fl) (m : Nat) (io ds : List PyData) : Out (Rt × List PyData) := if ds.length + 1 = m then toOutI (g (stNI n io ds)) else .bad
section
variable {P : Program} {w : World} {K : PySem.W.Frag} {mg : Str → Option Value} {base : Heap} {fa : List Fq} {fn : List He.FnD}
theorem cal_pure {x : Str} {sd : Stmt} {N ps : List Str} {k : Nat} {g : Rho → Fl} (T : Top fa fn K mg) (i j : Nat) (hi : fa[i]? = some (.f (.glo x))) (hj : fn[j]? = some (mkD x sd)) (S : FnScope N ps (defScope sd))
    (hbind : ∀ (kV doc pm : Value) (an : Option Addr) (cdv ct : Value) (us : List Value), us.length = ps.length → bindArgs (PySem.W.fnOf x x (defArgs sd) (defBody sd) (defScope sd) .none kV doc pm an cdv ct) ⟨us, []⟩ = pure (ps.zip us))
    (hb : ∀ (cdv : Value) (A : Around) (outer : List Env) (s : Shared) (H : Hp) (E : XK), Room k (A.deeper (PyProof.Rows.envOfC x (defScope sd) s.heap.objs.size (He.ga K x) cdv)) → PSs (cxOf (L2.CX P w) P w K mg base N x (defScope sd) (He.ga K x) cdv A outer s H E) (defBody sd) (tS ⟨fun cls d _ H => E cls d H, He.ga K, false⟩ [] g)) :
    Cal P w K mg base x (k + 1) ps (spP (He.ga K) ps.length (runP N.length g ps.length)) := by
  have F := T.def_ j hj
  refine ⟨_, _, ?_, T.glo i hi, F.kp, F.binds hbind⟩
  refine { fn_pure (k := k) F S hb with run := ?_, len := ?_ }
  · intro vs H Q E h
    exact h.1
  · intro A outer s H args us vs Q E hr I b r h
    refine (fn_pure (k := k) F S hb).run A outer s H args us vs Q E hr I b r (spP_imp (fun ds hd _ => ?_) vs H Q E h)
    unfold runP
    rw [if_pos hd]
    rfl
theorem cal_io {x : Str} {sd : Stmt} {N ps : List Str} {k : Nat} {g : Rho → Fl} (T : Top fa fn K mg) (i j : Nat) (hi : fa[i]? = some (.f (.glo x))) (hj : fn[j]? = some (mkD x sd)) (S : FnScope N ps (defScope sd))
    (hbind : ∀ (kV doc pm : Value) (an : Option Addr) (cdv ct : Value) (us : List Value), us.length = ps.length → bindArgs (PySem.W.fnOf x x (defArgs sd) (defBody sd) (defScope sd) .none kV doc pm an cdv ct) ⟨us, []⟩ = pure (ps.zip us))
    (hb : ∀ (cdv : Value) (A : Around) (outer : List Env) (s : Shared) (H : Hp) (E : XK), Room k (A.deeper (PyProof.Rows.envOfC x (defScope sd) s.heap.objs.size (He.ga K x) cdv)) → PSs (cxOf (L2.CX P w) P w K mg base N x (defScope sd) (He.ga K x) cdv A outer s H E) (defBody sd) (tS ⟨fun cls d _ H => E cls d H, He.ga K, false⟩ [0] g)) :
    Cal P w K mg base x (k + 1) ps (spI (He.ga K) ps.length (runI N.length g ps.length)) := by
  have F := T.def_ j hj
  refine ⟨_, _, ?_, T.glo i hi, F.kp, F.binds hbind⟩
  refine { fn_io (k := k) F S hb with run := ?_, len := ?_ }
  · intro vs H Q E h
    exact h.1
  · intro A outer s H args us vs Q E hr I b r h
    refine (fn_io (k := k) F S hb).run A outer s H args us vs Q E hr I b r (spI_imp (fun io ds hd _ => ?_) vs H Q E h)
    unfold runI
    rw [if_pos hd]
    rfl
end
section
variable {X : Cx} {G : Gx} {e a b : Expr} {es : List Expr} {fs : M (List PyData)} {pos : Pos} {k n : Nat} {ps : List Str} {x : Str} {p : Pos}
theorem runP_len {n m : Nat} {g : Rho → Fl} : ∀ ds r, runP n g m ds = r → r ≠ .bad → ds.length = m := fun ds r e h => by
  unfold runP at e
  split at e
  · assumption
  · exact absurd e.symm h
theorem runI_len {n m : Nat} {g : Rho → Fl} : ∀ io ds r, runI n g m io ds = r → r ≠ .bad → ds.length + 1 = m := fun io ds r e h => by
  unfold runI at e
  split at e
  · assumption
  · exact absurd e.symm h
theorem fe_cal {g : Rho → Fl} {m : Nat} (C : Cal X.prog X.w X.K X.mg X.base x k ps (spP G.cA m (runP n g m))) (hr : Room k X.A) (hg : Gl X x) (tk : Takes X G.W) (ha : PA X (e :: es) (tA G fs)) (hdb : (x == ("__debug__" : Str)) = false := by decide)
    (he : starEach (e :: es) X.env = (false, eval e X.env) :: starEach es X.env := by rfl) (hpl : (backTo pos (starEach es X.env)).any (·.1) = false := by rfl) : PE X (.Call (.Name x p) (e :: es) [] pos) (tE G (fCall (runP n g m) fs)) := by
  obtain ⟨f, fd, F, hm, hk, hb⟩ := C
  exact fe_call runP_len F hr hg hm hk hb tk ha hdb he hpl
theorem fl_cal {g : Rho → Fl} {m : Nat} (C : Cal X.prog X.w X.K X.mg X.base x k ps (spP G.cA m (runP n g m))) (hr : Room k X.A) (hg : Gl X x) (tk : Takes X G.W) (ha : PA X (e :: es) (tA G fs)) (hdb : (x == ("__debug__" : Str)) = false := by decide)
    (he : starEach (e :: es) X.env = (false, eval e X.env) :: starEach es X.env := by rfl) (hpl : (backTo pos (starEach es X.env)).any (·.1) = false := by rfl) : PE X (.Call (.Name x p) (e :: es) [] pos) (tL G (fCallL (runP n g m) fs)) := by
  obtain ⟨f, fd, F, hm, hk, hb⟩ := C
  exact fl_call runP_len F hr hg hm hk hb tk ha hdb he hpl
theorem fe_calI (i : Nat) {y : Str} {p1 : Pos} {g : Rho → Fl} {m : Nat} (C : Cal X.prog X.w X.K X.mg X.base x k ps (spI G.cA m (runI n g m))) (hr : Room k X.A) (hg : Gl X x) (tk : Takes X G.W) (ha : PA X es (tA G fs)) (hN : X.N[i]? = some y := by rfl) (hv : Vis X.env.scope y := by first | exact Or.inl rfl | exact Or.inr (Or.inl rfl) | exact Or.inr (Or.inr rfl)) (hd : (y == ("__debug__" : Str)) = false := by decide)
    (hcd : (y == ("__classdict__" : Str)) = false := by decide) (hdb : (x == ("__debug__" : Str)) = false := by decide) (he : starEach (.Name y p1 :: es) X.env = (false, eval (.Name y p1) X.env) :: starEach es X.env := by rfl) (hpl : (backTo pos (starEach es X.env)).any (·.1) = false := by rfl) : PE X (.Call (.Name x p) (.Name y p1 :: es) [] pos) (tE G (fCallI i (runI n g m) fs)) := by
  obtain ⟨f, fd, F, hm, hk, hb⟩ := C
  exact fe_callI i runI_len F hr hg hm hk hb tk ha hN hv hd hcd hdb he hpl
end
def spBegin (K : PySem.W.Frag) : Sp := fun vs H Q _ => ∃ (a : Addr) (ns : List Int), vs = [.ref a] ∧ SqL K H a (ns.map V.int) ∧ ns.length ≤ 63 ∧
  ∀ (p q : Addr) (H' : Hp), Same H H' → p ≠ q → H p = none → H q = none → H' q = some (.lst (ns.map V.int)) → H' p = some (.lst [.ref q, .int 0, .int 0, .int 1, .int 0]) → Q (.ref p) H'
def cells (ns : List Int) : List PyData := [.list (ns.map PyData.int), .int 0, .int 0, .int 1, .int 0]
def stLaw (n : Nat) (ns : List Int) : Rho := Sl.un :: Sl.ow (cells ns) :: List.replicate (n - 2) Sl.un
def spLaw (K : PySem.W.Frag) (n : Nat) (g : Rho → Fl) : Sp := fun vs H Q _ => ∃ (a : Addr) (ns : List Int), vs = [.ref a] ∧ SqL K H a (ns.map V.int) ∧ ns.length ≤ 63 ∧ Tb H ∧ (∃ ρ', g (stLaw n ns) = .ret (.fz (.bool true)) ρ') ∧ ∀ H', Q (.bl true) H'
theorem repA_ints {H : Hp} : ∀ ns : List Int, RepA H (ns.map V.int) (ns.map PyData.int)
  | [] => .nil
  | n :: ns => .cons (.int n) (repA_ints ns)
theorem law_start {H' : Hp} {a p q : Addr} {ns : List Int} {n : Nat} (tb : Tb H') (hn : 2 ≤ n) (hpq : p ≠ q) (hq : H' q = some (.lst (ns.map V.int))) (hp : H' p = some (.lst [.ref q, .int 0, .int 0, .int 1, .int 0])) :
    ∃ Hf, Rp Hf H' (some (.ref a) :: some (.ref p) :: List.replicate (n - 2) none) (stLaw n ns) := by
  have gt : ∀ (i : Nat) (s : Sl), (stLaw n ns)[i]? = some s → s = .un ∨ (i = 1 ∧ s = .ow (cells ns)) := fun i s h => by
    unfold stLaw at h
    match i, h with
    | 0, h => cases h; exact .inl rfl
    | 1, h => cases h; exact .inr ⟨rfl, rfl⟩
    | i + 2, h =>
      have h2 : (List.replicate (n - 2) Sl.un)[i]? = some s := h
      rw [List.getElem?_replicate] at h2
      split at h2
      · cases h2; exact .inl rfl
      · cases h2
  have own : ∀ (i : Nat) (a' : Addr), OwnI H' (some (V.ref a) :: some (V.ref p) :: List.replicate (n - 2) none) (stLaw n ns) i a' → i = 1 := fun i a' ⟨s, v, h, _, o⟩ => by
    rcases gt i s h with rfl | ⟨z, _⟩
    · exact o.elim
    · exact z
  refine ⟨upd (fun _ => none) q (.lst (ns.map V.int)), fun b o e => ?_, tb, NtH.upd (fun a ps z => by cases z) NT.lst, ?_, fun i s h => ?_, fun i j x h1 h2 => by rw [own i x h1, own j x h2], fun x ⟨i, t, v, Hf0, F, h, _⟩ => ?_, fun j i qs t h _ => ?_⟩
  · by_cases z : b = q
    · subst z; rw [upd_same] at e; cases e; exact hq
    · rw [upd_ne z] at e; cases e
  · unfold stLaw; simp
  · rcases gt i s h with rfl | ⟨rfl, rfl⟩
    · exact slok_un
    · refine ⟨by rw [upd_ne hpq], _, hp, ?_⟩
      exact .cons (.lst upd_same (repA_ints ns)) (.cons (.int _) (.cons (.int _) (.cons (.int _) (.cons (.int _) .nil))))
  · rcases gt i _ h with z | ⟨_, z⟩ <;> cases z
  · rcases gt j _ h with z | ⟨_, z⟩ <;> cases z
section
variable {P : Program} {w : World} {K : PySem.W.Frag} {mg : Str → Option Value} {base : Heap} {fa : List Fq} {fn : List He.FnD}
theorem ok_law {x y : Str} {sd st : Stmt} {rest : List Stmt} {N : List Str} {k : Nat} {g : Rho → Fl} (F : Fun K x x sd (He.ga K x) (fdOf K x)) (S : FnScope N [y] (defScope sd)) (hN : 2 ≤ N.length) (hbody : defBody sd = st :: rest)
    (h1 : ∀ (cdv : Value) (A : Around) (outer : List Env) (s : Shared) (H : Hp) (E : XK), Room k (A.deeper (PyProof.Rows.envOfC x (defScope sd) s.heap.objs.size (He.ga K x) cdv)) → PS (cxOf CX0 P w K mg base N x (defScope sd) (He.ga K x) cdv A outer s H E).nox st (tAsg (tCallS (spBegin K) (fun _ => E0) (tCons (tVar 0) tNil)) (gName 1)))
    (hb : ∀ (cdv : Value) (A : Around) (outer : List Env) (s : Shared) (H : Hp) (E : XK), Room k (A.deeper (PyProof.Rows.envOfC x (defScope sd) s.heap.objs.size (He.ga K x) cdv)) → PSs (cxOf CX0 P w K mg base N x (defScope sd) (He.ga K x) cdv A outer s H E).nox rest (tS ⟨fun _ _ _ _ => False, He.ga K, false⟩ [] g)) :
    FnOk P w K mg base CX0 (k + 1) (He.ga K x) (fdOf K x) [y] (spLaw K N.length g) := by
  refine F.ok S (fun vs H Q E h => ?_) (fun cdv A outer s H vs Q E hr h => ?_)
  · obtain ⟨a, ns, rfl, _⟩ := h
    rfl
  · obtain ⟨a, ns, rfl, hS, hlen, tb, ⟨ρ', hg⟩, hQ⟩ := h
    rw [hbody]
    refine ⟨_, pss_cons (h1 cdv A outer s H E hr) (hb cdv A outer s H E hr), ?_⟩
    refine ⟨_, rfl, a, ns, rfl, hS, hlen, fun p q H' sm hpq h1 h2 h3 h4 => ?_⟩
    have est : (L2.start N [.ref a]).set 1 (some (V.ref p)) = some (.ref a) :: some (.ref p) :: List.replicate (N.length - 2) none := by
      unfold L2.start
      obtain ⟨m, hm⟩ : ∃ m, N.length = m + 2 := ⟨N.length - 2, by omega⟩
      simp [hm, List.replicate_succ]
    obtain ⟨Hf, rp⟩ := law_start (a := a) (LamX.Tabs.ext tb sm) hN hpq h3 h4
    show tS _ _ _ _ ((L2.start N [.ref a]).set 1 (some (V.ref p))) H'
    rw [est]
    refine ⟨Hf, _, rp, ?_⟩
    rw [hg]
    intro v σ' Hf' H2 n _ hr
    have hr : Rep Hf' v (.bool true) := hr
    cases hr
    exact hQ H2
omit [Tabz] in
theorem law_at {l : PySem.W.OpenLaw} {w : World} {fa : List Fq} {fn : List He.FnD} {tf : List Str} {K : PySem.W.Frag} {mg : Str → Option Value} {h : Heap} {k N : Nat} {x : Str} {g : Rho → Fl} {sd : Stmt} (c : SaysQ fa fn K) (t : TabQ tf h K) (KX : K.In h) (G : h.Ns mainGlobals mg) (F : Fun K "law" "law" sd (He.ga K "law") (fdOf K "law"))
    (hbind : ∀ (kV doc pm : Value) (an : Option Addr) (cdv ct : Value) (s : Shared) (u : Value), BindsTo s (PySem.W.fnOf "law" "law" (defArgs sd) (defBody sd) (defScope sd) .none kV doc pm an cdv ct) ⟨[u], []⟩ [(x, u)])
    (hF : ∀ base : Heap, @Tp (tzOf tf K) fa fn tf K mg base → FnOk l.prog w K mg base CX0 k (He.ga K "law") (fdOf K "law") [x] (@spLaw (tzOf tf K) K N g))
    (hm : ∀ ns : List Int, ns.length ≤ 63 → ∃ ρ', g (stLaw N ns) = .ret (.fz (.bool true)) ρ') : LamX.LawAtS l w K CX0 k 63 x mg (He.ga K "law") h := by
  refine ⟨fdOf K "law", tf.map fun x => He.cT K (x, none), @spLaw (tzOf tf K) K N g, fun p hp => ?_, fun p hp => ?_, fun p hp => ?_, fun s v => ?_, fun H a ns hl _ hT hS => ⟨a, ns, rfl, hS, hl, ?_, hm ns hl, fun _ => rfl⟩, fun base KB GB hB => hF base (@Tp.mk (tzOf tf K) _ _ _ _ _ _ ⟨c, h, KX, G⟩ rfl rfl (fun x hx => hB _ (List.mem_map.mpr ⟨x, hx, rfl⟩)) t.nd)⟩
  · obtain ⟨x, hx, rfl⟩ := List.mem_map.mp hp
    exact t.empty x hx
  · obtain ⟨x, hx, rfl⟩ := List.mem_map.mp hp
    exact t.out x hx
  · obtain ⟨x, hx, rfl⟩ := List.mem_map.mp hp
    exact PySem.W.codeHd_of_K KX (t.hd x hx)
  · obtain ⟨oc, od, kV, doc, pm, an, cdv, ct, osl, efd, lk, cd⟩ := F.ex
    rw [efd]
    exact hbind kV doc pm an cdv ct s v
  · intro p hp
    obtain ⟨x, hx, rfl⟩ := List.mem_map.mp hp
    exact LamX.TabS.nil (hT _ (List.mem_map.mpr ⟨x, hx, rfl⟩))
end
end Fx
namespace Fx
open PySem L2
variable [Tabz]
section
variable {X : Cx} {G : Gx} {e a b c : Expr} {es : List Expr} {f g : M PyData} {pos : Pos} {A B : Opd} {As : List Opd} {pn : List Nat}
theorem vO (i : Nat) {x : Str} (hN : X.N[i]? = some x := by rfl) (hv : Vis X.env.scope x := by first | exact Or.inl rfl | exact Or.inr (Or.inl rfl) | exact Or.inr (Or.inr rfl)) (hd : (x == ("__debug__" : Str)) = false := by decide)
    (hcd : (x == ("__classdict__" : Str)) = false := by decide) : PE X (.Name x pos) ((Opd.v i).t G) := pe_var hN hv hd hcd
theorem eO (h : PE X a (tE G f)) : PE X a ((Opd.e f).t G) := h
theorem oa_nil : PA X [] (tAll G []) := pa_nil
theorem oa_cons (h : PE X e (A.t G)) (hr : PA X es (tAll G As)) (hs : starEach (e :: es) X.env = (false, eval e X.env) :: starEach es X.env := by rfl) : PA X (e :: es) (tAll G (A :: As)) := pa_cons h hr hs
theorem ft_pw {p : M Bool} (h : PW X e (tT G p)) : PT X e (tT G p) := h.pt
theorem u64 {k : Nat} {Z : Around} (hr : Room k Z) : Z.units + 64 < cLine := by have := hr.un; omega
theorem u65 {k : Nat} {Z : Around} (hr : Room k Z) : Z.units + 65 < cLine := by have := hr.un; omega
theorem u64s {k : Nat} {Z U : Around} (hr : Room k Z) (h : U.units = Z.units := by rfl) : U.units + 64 < cLine := by rw [h]; exact u64 hr
theorem u65s {k : Nat} {Z U : Around} (hr : Room k Z) (h : U.units = Z.units := by rfl) : U.units + 65 < cLine := by rw [h]; exact u65 hr
@[simp] def fCh (o o' : PyData → PyData → Option PyData) (A B C : Opd) : M PyData := fun ρ => (bnd A.go fun x => bnd B.go fun y => bnd (fin2 A B x y o) fun z => bnd (opt (asB z)) fun k => if k = true then bnd C.go fun w => fin2 B C y w o' else ret (.bool false)) ρ
theorem rd_ch {r r' : R2} {o o' : PyData → PyData → Option PyData} {C : Opd} (hqa : A.qok G) (hqb : B.qok G) (hr : RdO r o) (hr' : RdO r' o') (σ : St) (H : Hp) (Q : VK) (h : tE G (fCh o o' A B C) σ H Q) : tChain r r' (A.t G) (B.t G) (C.t G) σ H Q := by
  obtain ⟨Hf, ρ, rp, af⟩ := h
  refine Opd.run (stepO rp af) fun x H1 ⟨x0, Hf1, ρ1, n1, ra, af1⟩ => Opd.run (stepO n1.rp af1) fun y H2 ⟨y0, Hf2, ρ2, n2, rb, af2⟩ => ?_
  unfold bnd fin2 at af2
  cases e1 : A.at x0 ρ2 with
  | none => simp only [e1] at af2; exact False.elim af2
  | some xa =>
    cases e2 : B.at y0 ρ2 with
    | none => simp only [e1, e2] at af2; exact False.elim af2
    | some yb =>
      cases e3 : o xa yb with
      | none => simp only [e1, e2, e3, opt] at af2; exact False.elim af2
      | some z =>
        simp only [e1, e2, e3, opt] at af2
        obtain ⟨v, dv, hq⟩ := hr Hf2 H2 x y xa yb z n2.rp.sub (Opd.end n2.rp (Opd.keep hqa n1.rp n2 ra) e1) (Opd.end n2.rp rb e2) e3
        refine hq _ ?_
        cases e4 : asB z with
        | none => rw [e4] at af2; exact False.elim af2
        | some k =>
          rw [e4] at af2
          have ez := asB_eq e4
          subst ez
          refine ⟨k, rep_bool dv, ?_⟩
          cases k with
          | false => exact fin (R := Rep) n2.rp af2 (.bl _)
          | true =>
            refine Opd.run (stepO n2.rp af2) fun w H3 ⟨w0, Hf3, ρ3, n3, rc, af3⟩ => ?_
            obtain ⟨yb', wc, eb, ec, af4⟩ := fin2_some af3
            obtain ⟨d, e, kk⟩ := finO n3.rp af4
            obtain ⟨v2, dv2, hq2⟩ := hr' Hf3 H3 y w yb' wc d n3.rp.sub (Opd.end n3.rp (Opd.keep hqb n2.rp n3 rb) eb) (Opd.end n3.rp rc ec) e
            exact hq2 Q (kk v2 dv2)
theorem ft_chain {op op' : CmpOp} {r r' : R2} {o o' : PyData → PyData → Option PyData} {C : Opd} (ho : OpR X (compareOp op) r) (ho' : OpR X (compareOp op') r') (hr : RdO r o) (hr' : RdO r' o') (ha : PE X a (A.t G)) (hb : PE X b (B.t G)) (hc : PE X c (C.t G))
    (hm : lastMarks [op, op'] [b, c] = false := by with_unfolding_all rfl) (hqa : A.qok G := by first | exact True.intro | rfl) (hqb : B.qok G := by first | exact True.intro | rfl) : PT X (.Compare a [op, op'] [b, c] pos) (tT G (fB (fCh o o' A B C))) := (pt_chain ho ho' ha hb hc hm).imp fun σ H Q h => rd_ch hqa hqb hr hr' σ H _ (rd_B σ H Q h)
end
section
variable {P : Program} {w : World} {K : PySem.W.Frag} {mg : Str → Option Value} {base : Heap} {fa : List Fq} {fn : List He.FnD}
theorem cut63 {ns : List Int} (h : ns.length ≤ 63) : cutV (ns.map V.int) none (some 63) = ns.map V.int := by
  unfold cutV
  have e : HT.sIx (ns.map V.int).length 0 none = 0 := rfl
  have e2 : HT.sIx (ns.map V.int).length (ns.map V.int).length (some 63) = (ns.map V.int).length := by
    rw [List.length_map]
    unfold HT.sIx
    simp only
    split <;> omega
  rw [e, e2, List.drop_zero, Nat.sub_zero, List.take_length]
theorem ok_begin {x y : Str} {sd : Stmt} {k : Nat} {p1 p2 p3 p4 p5 p6 p7 p8 p9 p10 p11 p12 : Pos} {j1 j2 j3 j4 j5 : Nat} (F : Fun K x x sd (He.ga K x) (fdOf K x)) (S : FnScope [y] [y] (defScope sd)) (hl : mg "list" = none) (hv : Vis (defScope sd) y) (hg : ∀ (cdv : Value) (A : Around) (outer : List Env) (s : Shared) (H : Hp) (E : XK), Gl (cxOf (L2.CX P w) P w K mg base [y] x (defScope sd) (He.ga K x) cdv A outer s H E) "list")
    (hbody : defBody sd = [.Return (some (.List [.Call (.Name "list" p1) [.Subscript (.Name y p2) (.Slice none (some (.Constant (.int 63) j1 p3)) none p4) p5] [] p6, .Constant (.int 0) j2 p7, .Constant (.int 0) j3 p8, .Constant (.int 1) j4 p9, .Constant (.int 0) j5 p10] p11)) p12]) (hd : (y == ("__debug__" : Str)) = false := by decide)
    (hcd : (y == ("__classdict__" : Str)) = false := by decide) :
    FnOk P w K mg base (L2.CX P w) (k + 1) (He.ga K x) (fdOf K x) [y] (spBegin K) := by
  refine F.okX S (fun vs H Q E h => ?_) (fun cdv A outer s H vs Q E hr h => ?_)
  · obtain ⟨a, ns, rfl, _⟩ := h
    rfl
  · obtain ⟨a, ns, rfl, hS, hlen, hQ⟩ := h
    rw [hbody]
    refine ⟨_, pss_one (ps_ret (pe_lst (pa_cons (pe_callTy call_list_of (hg _ _ _ _ _ _) hl (by decide +kernel) (pa_cons (pe_slice sl_list (pe_var (i := 0) rfl hv hd hcd) po_none (po_some pe_int)) pa_nil)) (pa_cons pe_int (pa_cons pe_int (pa_cons pe_int (pa_cons pe_int pa_nil))))))), ?_⟩
    refine ⟨_, rfl, 63, rfl, a, _, rfl, hS, fun t ht => ?_⟩
    rw [cut63 hlen]
    refine ⟨t, _, rfl, .inl (SqL.of upd_same), fun q hq => ⟨by show 5 ≤ sizeLine; decide, fun p hp => ?_⟩⟩
    have hqt : q ≠ t := fun z => by
      rw [z, upd_same] at hq
      cases hq
    have hq0 : H q = none := by
      rw [upd_ne hqt] at hq
      exact hq
    have hpq : p ≠ q := fun z => by
      rw [z, upd_same] at hp
      cases hp
    have hpt : p ≠ t := fun z => by
      rw [z, upd_ne hqt.symm, upd_same] at hp
      cases hp
    have hp0 : H p = none := by
      rw [upd_ne hpq, upd_ne hpt] at hp
      exact hp
    refine hQ p q _ (fun b o e => ?_) hpq hp0 hq0 ?_ upd_same
    · rw [upd_ne (ne_of_none e hp0), upd_ne (ne_of_none e hq0), upd_ne (ne_of_none e ht)]
      exact e
    · rw [upd_ne hpq.symm, upd_same]
end
section
variable {P : Program} {w : World} {K : PySem.W.Frag} {mg : Str → Option Value} {base : Heap} {fa : List Fq} {fn : List He.FnD}
theorem cal_bad {x : Str} {sd : Stmt} {ps : List Str} (T : Top fa fn K mg) (i j : Nat) (hi : fa[i]? = some (.f (.glo x))) (hj : fn[j]? = some (mkD x sd))
    (hbind : ∀ (kV doc pm : Value) (an : Option Addr) (cdv ct : Value) (us : List Value), us.length = ps.length → bindArgs (PySem.W.fnOf x x (defArgs sd) (defBody sd) (defScope sd) .none kV doc pm an cdv ct) ⟨us, []⟩ = pure (ps.zip us)) (k : Nat) :
    Cal P w K mg base x k ps (spP (He.ga K) ps.length fun _ => .bad) := by
  have F := T.def_ j hj
  refine ⟨_, _, ⟨fun vs H Q E h => h.1, fun A outer s H args us vs Q E hr I b r h => ?_⟩, T.glo i hi, F.kp, F.binds hbind⟩
  obtain ⟨_, _, _, _, _, h⟩ := h
  exact h.elim
end
section
variable {X : Cx} {G : Gx} {e a b : Expr} {es : List Expr} {fs : M (List PyData)} {pos : Pos} {k : Nat} {ps : List Str} {x : Str} {p : Pos} {pn : List Nat} {sts : List Stmt} {s : Rho → Fl}
theorem fe_calF {F : List PyData → Out Rt} {m : Nat} (hn : ∀ ds r, F ds = r → r ≠ .bad → ds.length = m) (C : Cal X.prog X.w X.K X.mg X.base x k ps (spP G.cA m F)) (hr : Room k X.A) (hg : Gl X x) (tk : Takes X G.W) (ha : PA X (e :: es) (tA G fs)) (hdb : (x == ("__debug__" : Str)) = false := by decide)
    (he : starEach (e :: es) X.env = (false, eval e X.env) :: starEach es X.env := by rfl) (hpl : (backTo pos (starEach es X.env)).any (·.1) = false := by rfl) : PE X (.Call (.Name x p) (e :: es) [] pos) (tE G (fCall F fs)) := by
  obtain ⟨f, fd, F, hm, hk, hb⟩ := C
  exact fe_call hn F hr hg hm hk hb tk ha hdb he hpl
theorem suite_of {c : Prop} [Decidable c] (h : c → PSs X sts (tS G pn s)) : PSs X sts (tS G pn (fun ρ => if c then s ρ else .bad)) := by
  by_cases q : c
  · have e : (fun ρ => if c then s ρ else .bad) = s := funext fun ρ => if_pos q
    rw [e]
    exact h q
  · refine ⟨fun pins s' σ H D I ⟨Hf, ρ, rp, af⟩ => ?_⟩
    have af2 : AfS G pn σ ρ Hf H D .bad := by
      have e : (if c then s ρ else Fl.bad) = .bad := if_neg q
      rw [← e]
      exact af
    exact af2.elim
end
end Fx
namespace Fx
open PySem L2
variable [Tabz]
@[simp] theorem stN_eq (n : Nat) (ds : List PyData) : stN n ds = ds.map Sl.fz ++ List.replicate (n - ds.length) Sl.un := rfl
@[simp] theorem stNI_eq (n : Nat) (io ds : List PyData) : stNI n io ds = Sl.ow io :: (ds.map Sl.fz ++ List.replicate (n - (ds.length + 1)) Sl.un) := rfl
theorem small_of {n : Nat} (h : n ≤ 100000) : small n = true := decide_eq_true h
theorem seq_nx {s t : Rho → Fl} {ρ ρ1 : Rho} (h : s ρ = .nx ρ1) : sSeq s t ρ = t ρ1 := by
  unfold sSeq
  rw [h]
def Nx (P : Rho → Prop) (f : Fl) : Prop := ∃ ρ, f = .nx ρ ∧ P ρ
theorem sFor_eq {fi : M (List PyData)} {g : PyData → Rho → Option Rho} {s : Rho → Fl} {ρ ρ1 : Rho} {ds : List PyData} (h : fi ρ = .ok (ds, ρ1)) : sFor fi g s ρ = forE g s ds ρ1 := by
  unfold sFor sBnd
  rw [h]
theorem forE_inv {g : PyData → Rho → Option Rho} {s : Rho → Fl} (I : Nat → Rho → Prop) : ∀ (ds : List PyData) (k : Nat) (ρ : Rho), I k ρ →
    (∀ j d ρ, ds[j]? = some d → I (k + j) ρ → ∃ ρ1 ρ2, g d ρ = some ρ1 ∧ (s ρ1 = .nx ρ2 ∨ s ρ1 = .ct ρ2) ∧ I (k + j + 1) ρ2) → ∃ ρ', forE g s ds ρ = .nx ρ' ∧ I (k + ds.length) ρ'
  | [], k, ρ, h, _ => ⟨ρ, rfl, h⟩
  | d :: ds, k, ρ, h, hs => by
    obtain ⟨ρ1, ρ2, e1, e2, h2⟩ := hs 0 d ρ rfl h
    obtain ⟨ρ', e3, h3⟩ := forE_inv I ds (k + 1) ρ2 h2 fun j x r hj hi => by
      have q := hs (j + 1) x r hj (by rw [show k + (j + 1) = k + 1 + j from by omega]; exact hi)
      rw [show k + (j + 1) + 1 = k + 1 + j + 1 from by omega] at q
      exact q
    refine ⟨ρ', ?_, by rw [show k + (d :: ds).length = k + 1 + ds.length from by simp; omega]; exact h3⟩
    unfold forE
    rw [e1]
    rcases e2 with e2 | e2 <;> simp only [e2] <;> exact e3
theorem rest_of {ρ2 ρ : Rho} {vs : List Nat} (h : wipeR ρ2 vs = wipeR ρ vs) : rest ρ2 ρ vs = rest ρ ρ vs := by
  have hl : ρ2.length = ρ.length := by
    have := congrArg List.length h
    rwa [wipeR_len, wipeR_len] at this
  apply List.ext_getElem?
  intro j
  rw [rest_get, rest_get, hl]
  by_cases q : j ∈ vs
  · rw [if_pos q, if_pos q]
  · rw [if_neg q, if_neg q]
    have e := congrArg (fun l : Rho => l[j]?) h
    rwa [wipeR_get, wipeR_get, if_neg q, if_neg q] at e
theorem lcE_pure {g : PyData → Rho → Option Rho} {tt : M Bool} {fe : M PyData} {vs : List Nat} {ρ : Rho} (c : PyData → Bool) (h : PyData → PyData) : ∀ (ds : List PyData) (ρ0 : Rho), wipeR ρ0 vs = wipeR ρ vs →
    (∀ d ∈ ds, ∃ ρ1, g d (wipeR ρ vs) = some ρ1 ∧ ∃ ρ2, tt ρ1 = .ok (c d, ρ2) ∧ (c d = true → ∃ ρ3, fe ρ2 = .ok (h d, ρ3) ∧ wipeR ρ3 vs = wipeR ρ vs) ∧ (c d = false → wipeR ρ2 vs = wipeR ρ vs)) →
    ∃ ρ', lcE g tt fe vs ds ρ0 = .ok ((ds.filter c).map h, ρ') ∧ wipeR ρ' vs = wipeR ρ vs
  | [], ρ0, h0, _ => ⟨ρ0, rfl, h0⟩
  | d :: ds, ρ0, h0, hs => by
    obtain ⟨ρ1, e1, ρ2, e2, k1, k2⟩ := hs d List.mem_cons_self
    unfold lcE
    rw [h0, e1]
    simp only [e2]
    cases hc : c d with
    | true =>
      obtain ⟨ρ3, e3, w3⟩ := k1 hc
      obtain ⟨ρ', e4, w4⟩ := lcE_pure c h ds ρ3 w3 fun x hx => hs x (List.mem_cons_of_mem _ hx)
      refine ⟨ρ', ?_, w4⟩
      simp only [e3, e4]
      rw [List.filter_cons_of_pos hc]
      rfl
    | false =>
      obtain ⟨ρ', e4, w4⟩ := lcE_pure c h ds ρ2 (k2 hc) fun x hx => hs x (List.mem_cons_of_mem _ hx)
      refine ⟨ρ', ?_, w4⟩
      simp only [e4]
      rw [List.filter_cons_of_neg (by simp [hc])]
theorem lc_pure {g : PyData → Rho → Option Rho} {tt : M Bool} {fe : M PyData} {fi : M (List PyData)} {vs : List Nat} {ρ0 ρ : Rho} {ds : List PyData} (c : PyData → Bool) (h : PyData → PyData) (hfi : fi ρ0 = .ok (ds, ρ)) (hs : ds.length ≤ 100000)
    (he : ∀ d ∈ ds, ∃ ρ1, g d (wipeR ρ vs) = some ρ1 ∧ ∃ ρ2, tt ρ1 = .ok (c d, ρ2) ∧ (c d = true → ∃ ρ3, fe ρ2 = .ok (h d, ρ3) ∧ wipeR ρ3 vs = wipeR ρ vs) ∧ (c d = false → wipeR ρ2 vs = wipeR ρ vs)) :
    fLc fi g tt fe vs ρ0 = .ok ((ds.filter c).map h, rest ρ ρ vs) := by
  obtain ⟨ρ', e, w⟩ := lcE_pure (ρ := ρ) c h ds ρ rfl he
  unfold fLc bnd
  rw [hfi]
  simp only [small_of hs, if_true, e, rest_of w]
theorem lc_map {g : PyData → Rho → Option Rho} {fe : M PyData} {fi : M (List PyData)} {vs : List Nat} {ρ0 ρ : Rho} {ds : List PyData} (h : PyData → PyData) (hfi : fi ρ0 = .ok (ds, ρ)) (hs : ds.length ≤ 100000)
    (he : ∀ d ∈ ds, ∃ ρ1, g d (wipeR ρ vs) = some ρ1 ∧ ∃ ρ3, fe ρ1 = .ok (h d, ρ3) ∧ wipeR ρ3 vs = wipeR ρ vs) :
    fLc fi g (ret true) fe vs ρ0 = .ok (ds.map h, rest ρ ρ vs) := by
  have q := lc_pure (tt := ret true) (fun _ => true) h hfi hs fun d hd => by
    obtain ⟨ρ1, e1, ρ3, e2, e3⟩ := he d hd
    exact ⟨ρ1, e1, ρ1, rfl, fun _ => ⟨ρ3, e2, e3⟩, fun z => by cases z⟩
  rw [q, List.filter_eq_self.mpr fun _ _ => rfl]
theorem lcE_enc {α : Type} {g : PyData → Rho → Option Rho} {tt : M Bool} {fe : M PyData} {vs : List Nat} {ρ : Rho} (enc : α → PyData) (c : α → Bool) (h : α → PyData) : ∀ (xs : List α) (ρ0 : Rho), wipeR ρ0 vs = wipeR ρ vs →
    (∀ x ∈ xs, ∃ ρ1, g (enc x) (wipeR ρ vs) = some ρ1 ∧ ∃ ρ2, tt ρ1 = .ok (c x, ρ2) ∧ (c x = true → ∃ ρ3, fe ρ2 = .ok (h x, ρ3) ∧ wipeR ρ3 vs = wipeR ρ vs) ∧ (c x = false → wipeR ρ2 vs = wipeR ρ vs)) →
    ∃ ρ', lcE g tt fe vs (xs.map enc) ρ0 = .ok ((xs.filter c).map h, ρ') ∧ wipeR ρ' vs = wipeR ρ vs
  | [], ρ0, h0, _ => ⟨ρ0, rfl, h0⟩
  | d :: ds, ρ0, h0, hs => by
    obtain ⟨ρ1, e1, ρ2, e2, k1, k2⟩ := hs d List.mem_cons_self
    rw [List.map_cons]
    unfold lcE
    rw [h0, e1]
    simp only [e2]
    cases hc : c d with
    | true =>
      obtain ⟨ρ3, e3, w3⟩ := k1 hc
      obtain ⟨ρ', e4, w4⟩ := lcE_enc enc c h ds ρ3 w3 fun x hx => hs x (List.mem_cons_of_mem _ hx)
      refine ⟨ρ', ?_, w4⟩
      simp only [e3, e4]
      rw [List.filter_cons_of_pos hc]
      rfl
    | false =>
      obtain ⟨ρ', e4, w4⟩ := lcE_enc enc c h ds ρ2 (k2 hc) fun x hx => hs x (List.mem_cons_of_mem _ hx)
      refine ⟨ρ', ?_, w4⟩
      simp only [e4]
      rw [List.filter_cons_of_neg (by simp [hc])]
theorem lc_if {α : Type} {g : PyData → Rho → Option Rho} {tt : M Bool} {fe : M PyData} {fi : M (List PyData)} {vs : List Nat} {ρ0 ρ : Rho} (xs : List α) (enc : α → PyData) (c : α → Bool) (h : α → PyData) (hfi : fi ρ0 = .ok (xs.map enc, ρ)) (hs : xs.length ≤ 100000)
    (he : ∀ x ∈ xs, ∃ ρ1, g (enc x) (wipeR ρ vs) = some ρ1 ∧ ∃ ρ2, tt ρ1 = .ok (c x, ρ2) ∧ (c x = true → ∃ ρ3, fe ρ2 = .ok (h x, ρ3) ∧ wipeR ρ3 vs = wipeR ρ vs) ∧ (c x = false → wipeR ρ2 vs = wipeR ρ vs)) :
    fLc fi g tt fe vs ρ0 = .ok ((xs.filter c).map h, rest ρ ρ vs) := by
  obtain ⟨ρ', e, w⟩ := lcE_enc (ρ := ρ) enc c h xs ρ rfl he
  unfold fLc bnd
  rw [hfi]
  simp only [List.length_map, small_of hs, if_true, e, rest_of w]
theorem lc_all {α : Type} {g : PyData → Rho → Option Rho} {fe : M PyData} {fi : M (List PyData)} {vs : List Nat} {ρ0 ρ : Rho} (xs : List α) (enc : α → PyData) (h : α → PyData) (hfi : fi ρ0 = .ok (xs.map enc, ρ)) (hs : xs.length ≤ 100000)
    (he : ∀ x ∈ xs, ∃ ρ1, g (enc x) (wipeR ρ vs) = some ρ1 ∧ ∃ ρ3, fe ρ1 = .ok (h x, ρ3) ∧ wipeR ρ3 vs = wipeR ρ vs) :
    fLc fi g (ret true) fe vs ρ0 = .ok (xs.map h, rest ρ ρ vs) := by
  have q := lc_if (tt := ret true) xs enc (fun _ => true) h hfi hs fun d hd => by
    obtain ⟨ρ1, e1, ρ3, e2, e3⟩ := he d hd
    exact ⟨ρ1, e1, ρ1, rfl, fun _ => ⟨ρ3, e2, e3⟩, fun z => by cases z⟩
  rw [q, List.filter_eq_self.mpr fun _ _ => rfl]
theorem asBools_map (bs : List Bool) : asBools (bs.map PyData.bool) = some bs := by
  induction bs with
  | nil => rfl
  | cons b bs ih => simp only [List.map_cons, asBools, ih, Option.map_some]
@[simp] theorem wipeR_nil (ρ : Rho) : wipeR ρ [] = ρ := rfl
@[simp] theorem wipeR_cons (ρ : Rho) (v : Nat) (vs : List Nat) : wipeR ρ (v :: vs) = (wipeR ρ vs).set v .un := rfl
@[simp] theorem rest_nil (ρ ρ1 : Rho) : rest ρ ρ1 [] = ρ := rfl
@[simp] theorem rest_cons (ρ ρ1 : Rho) (v : Nat) (vs : List Nat) : rest ρ ρ1 (v :: vs) = (rest ρ ρ1 vs).set v (keepFz ρ1[v]?) := rfl
@[simp] theorem keepFz_un : keepFz (some .un) = .un := rfl
@[simp] theorem keepFz_fz (d : PyData) : keepFz (some (.fz d)) = .fz d := rfl
theorem atI_at {α : Type} {xs : List α} {i : Int} {v : α} (h0 : 0 ≤ i) (h : xs[i.toNat]? = some v) : atI xs i = some v := by
  have q := atI_nat h
  rwa [Int.toNat_of_nonneg h0] at q
theorem ixN_in {n : Nat} {i : Int} (h0 : 0 ≤ i) (h : i < n) : ixN n i = some i.toNat := by
  unfold ixN
  rw [if_pos h0, if_pos h]
theorem kSet_in {d : PyData} {i : Int} {ds : List PyData} (h0 : 0 ≤ i) (h : i < ds.length) : kSet d (.int i) ds = some (ds.set i.toNat d) := by
  show (ixN ds.length i).map _ = _
  rw [ixN_in h0 h]
  rfl
def gd : Nat → PyData → Bool
  | 0, _ => false
  | _ + 1, .none => true
  | _ + 1, .bool _ => true
  | _ + 1, .int _ => true
  | _ + 1, .str _ => true
  | n + 1, .list ds => small ds.length && ds.all (gd n)
  | n + 1, .tuple ds => small ds.length && ds.all (gd n)
  | _ + 1, .dict _ => false
end Fx
namespace Fx
open PySem L2
variable [Tabz]
section
variable {X : Cx} {G : Gx} {e a b c : Expr} {es : List Expr} {f g : M PyData} {pos : Pos} {A B : Opd} {As : List Opd} {pn : List Nat} {l h : M (Option Int)} {lo hi : Option Expr} {p2 : Pos}
def RdOX (r : R2) (o : PyData → PyData → Option PyData) : Prop := ∀ (Hf H : Hp) (x y : V) (a b d : PyData), Same Hf H → R1 Hf H x a → R1 Hf H y b → o a b = some d → ∀ Q : VK, (∀ v Hf' H', Ext Hf H Hf' H' → Rep Hf' v d → Q v H') → r x y H Q
theorem rd_opX {r : R2} {o : PyData → PyData → Option PyData} (hqa : A.qok G) (hr : RdOX r o) (σ : St) (H : Hp) (Q : VK) (h : tE G (fOp o A B) σ H Q) : tOp r (A.t G) (B.t G) σ H Q := by
  obtain ⟨Hf, ρ, rp, af⟩ := h
  refine Opd.run (stepO rp af) fun x H1 ⟨a, Hf1, ρ1, n1, ra, af1⟩ => Opd.run (stepO n1.rp af1) fun y H2 ⟨b, Hf2, ρ2, n2, rb, af2⟩ => ?_
  obtain ⟨a', b', ea, eb, af3⟩ := fin2_some af2
  unfold opt at af3
  cases e : o a' b' with
  | none => rw [e] at af3; exact af3.elim
  | some d =>
    rw [e] at af3
    exact hr Hf2 H2 x y a' b' d n2.rp.sub (Opd.end n2.rp (Opd.keep hqa n1.rp n2 ra) ea) (Opd.end n2.rp rb eb) e Q fun v Hf' H' z rv => af3 v Hf' H' (n2.rp.ext z) rv
@[simp] def oCatT : PyData → PyData → Option PyData
  | .tuple xs, .tuple ys => if small (xs.length + ys.length) then some (.tuple (xs ++ ys)) else none
  | _, _ => none
theorem rd_catT {K : PySem.W.Frag} : RdOX (rCatA K) oCatT := by
  intro Hf H x y a b d sm ha hb e Q q
  cases a <;> cases b <;> simp only [oCatT, reduceCtorEq] at e
  split at e
  · rename_i xs ys hs
    cases e
    have ra := ha.rep fun _ z => nomatch z
    have rb := hb.rep fun _ z => nomatch z
    obtain ⟨p1, vs1, rfl, h1, h2⟩ := ha.tup sm
    obtain ⟨p2, vs2, rfl, h3, h4⟩ := hb.tup sm
    refine ⟨_, _, _, _, rfl, rfl, SqT.of h1, SqT.of h3, by rw [repA_len h2, repA_len h4]; exact small_le hs, fun z => ?_, fun _ z => ?_, fun _ _ p hp => ?_⟩
    · subst z
      cases h2
      exact q _ _ _ .same rb
    · subst z
      cases h4
      rw [List.append_nil] at q
      exact q _ _ _ .same ra
    · exact q _ _ _ (.new hp) (.tup upd_same (repA_same (same_new (sm.free hp)) (repA_append h2 h4)))
  · cases e
theorem fe_catT (ha : PE X a (A.t G)) (hb : PE X b (B.t G)) (hqa : A.qok G := by first | exact True.intro | rfl) : PE X (.BinOp a .Add b pos) (tE G (fOp oCatT A B)) := (pe_op op_catA ha hb).imp (rd_opX hqa rd_catT)
@[simp] def oSlA (lo hi : Option Int) (d : PyData) : Option PyData := match d with
  | .tuple ds => some (.tuple (cut ds lo hi))
  | _ => none
@[simp] def fSlA (f : M PyData) (l h : M (Option Int)) : M PyData := fun ρ => (bnd f fun d => bnd l fun lo => bnd h fun hi => opt (oSlA lo hi d)) ρ
theorem cut_whole {α : Type} {ds : List α} {lo hi : Option Int} (h1 : HT.sIx ds.length 0 lo = 0) (h2 : HT.sIx ds.length ds.length hi = ds.length) : cut ds lo hi = ds := by
  unfold cut
  rw [h1, h2, List.drop_zero, Nat.sub_zero, List.take_length]
theorem fe_sliceA (he : PE X e (tE G f)) (hl : PO X lo (tP G l)) (hh : PO X hi (tP G h)) : PE X (.Subscript e (.Slice lo hi none p2) pos) (tE G (fSlA f l h)) := by
  refine (pe_slice sl_tupA he hl hh).imp fun σ H Q ⟨Hf, ρ, rp, af⟩ => ?_
  refine (step rp af).mono fun x H1 ⟨d, Hf1, ρ1, n1, ra, af1⟩ => (step n1.rp af1).mono fun y H2 ⟨i, Hf2, ρ2, n2, rb, af2⟩ => (step n2.rp af2).mono fun z H3 ⟨j, Hf3, ρ3, n3, rc, af3⟩ => ?_
  subst rb rc
  have ra := rep_same (n2.sub.trans n3.sub) ra
  cases ra with
  | @tup _ vs ds h1 h2 =>
    simp only [oSlA] at af3
    refine ⟨_, _, rfl, SqT.of (n3.rp.sub _ _ h1), fun hw => ?_, fun _ p hp => ?_⟩
    · rw [repA_len h2] at hw
      rw [cut_whole hw.1 hw.2] at af3
      exact fin (R := Rep) n3.rp af3 (.tup h1 h2)
    · exact AfG.new (R := Rep) n3.rp af3 hp (Rep.tup upd_same (repA_same (same_new (n3.rp.sub.free hp)) (repA_cut h2 _ _)))
  | lst _ _ => exact af3.elim
  | non => exact af3.elim
  | ins _ _ _ => exact af3.elim
  | dct _ _ _ => exact af3.elim
  | bl _ => exact af3.elim
  | int _ => exact af3.elim
  | str _ => exact af3.elim
@[simp] def oInt1 : List PyData → Option PyData
  | [.int i] => some (.int i)
  | [.bool b] => some (.int (if b then 1 else 0))
  | _ => none
@[simp] def augGet (i : Nat) (j : PyData) (ρ : Rho) : Option Int := match (ρ[i]? : Option Sl) with
  | some (.ow ds) => (match j with
    | .int k => (match atI ds k with
      | some (.int x) => some x
      | _ => none)
    | _ => none)
  | _ => none
@[simp] def augPut (i : Nat) (op : Int → Int → Int) (x : Int) (j : PyData) (d : PyData) (ρ : Rho) : Fl := match d with
  | .int y => (match mutO i (kSet (.int (op x y)) j) ρ with
    | some ρ3 => .nx ρ3
    | none => .bad)
  | _ => .bad
@[simp] def sAugIx (i : Nat) (op : Int → Int → Int) (g f : M PyData) : Rho → Fl := fun ρ => if isOw i ρ then (sBnd g fun j ρ1 => match augGet i j ρ1 with
    | some x => sBnd f (augPut i op x j) ρ1
    | none => .bad) ρ else .bad
@[simp] def kIns (j d : PyData) (ds : List PyData) : Option (List PyData) := match j with
  | .int k => if small ds.length && (decide (0 ≤ k) && small k.natAbs) then some (ds.take k.toNat ++ [d] ++ ds.drop k.toNat) else none
  | _ => none
@[simp] def sInsert (i : Nat) (g f : M PyData) : Rho → Fl := fun ρ => sMut i (fCons g (fCons f fNil)) (fun xs ds => match xs with
  | [j, d] => kIns j d ds
  | _ => none) ρ
theorem fs_insert (i : Nat) {x : Str} {p1 ap cp : Pos} (hb : PE X b (tE G g)) (he : PE X e (tE G f)) (hN : X.N[i]? = some x := by rfl) (hv : Vis X.env.scope x := by first | exact Or.inl rfl | exact Or.inr (Or.inl rfl) | exact Or.inr (Or.inr rfl)) (hd : (x == ("__debug__" : Str)) = false := by decide)
    (hcd : (x == ("__classdict__" : Str)) = false := by decide) (hbase : attributeBase (.Name x p1) "insert" X.env (eval (.Name x p1) X.env) = eval (.Name x p1) X.env := by rfl)
    (hfew : ((backTo cp (starEach [b, e] X.env)).all (fun x => !x.1) && (backToKw cp (keywordEach [] X.env)).all (fun x => x.1.isSome) && decide (([b, e] : List Expr).length + ([] : List Keyword).length + (if ([] : List Keyword).isEmpty then 0 else 1) < 30)) = true := by rfl)
    (hline : (ap.endLine == cp.line) = true := by rfl) (hs : starEach [b, e] X.env = (false, eval b X.env) :: starEach [e] X.env := by rfl) (hs2 : starEach [e] X.env = (false, eval e X.env) :: starEach [] X.env := by rfl) (hplain : (backTo cp (starEach [e] X.env)).any (·.1) = false := by rfl)
    (hsw : swapsWith (.Call (.Attribute (.Name x p1) "insert" ap) [b, e] [] cp) none pos.line X.env = pure false := by rfl) : PS X (.Expr (.Call (.Attribute (.Name x p1) "insert" ap) [b, e] [] cp) pos) (tS G pn (sInsert i g f)) := by
  refine (ps_expr (pe_bm PySem.F.plainAttrs_list PySem.F.slot_list_insert PySem.F.type_list_insert mt_insert (pe_var hN hv hd hcd) (fa_cons hb (fa_cons he fa_nil hs2) hs) hbase hfew hline hs hplain) hsw).imp fun D σ H ⟨Hf, ρ, rp, af⟩ => ?_
  unfold sInsert sMut at af
  cases e0 : isOw i ρ with
  | false => rw [e0] at af; exact False.elim af
  | true =>
    rw [e0, if_pos rfl] at af
    obtain ⟨ds0, h0⟩ := isOw_ow e0
    obtain ⟨p, vs0, s0, _, g0, _⟩ := slok_ow (rp.sl i _ h0)
    refine ⟨_, s0, .inl ⟨rfl, _, SqL.of g0⟩, (stepS rp af).mono fun us H1 ⟨xs, Hf1, ρ1, n1, ra, af1⟩ => ?_⟩
    cases ra with
    | nil => simp [mutO] at af1; split at af1 <;> first | exact False.elim af1 | (rename_i hq; split at hq <;> simp at hq)
    | @cons v1 _ j _ ra1 ra =>
      cases ra with
      | nil => simp [mutO] at af1; split at af1 <;> first | exact False.elim af1 | (rename_i hq; split at hq <;> simp at hq)
      | @cons v2 _ d _ ra2 ra =>
        cases ra with
        | cons _ _ => simp [mutO] at af1; split at af1 <;> first | exact False.elim af1 | (rename_i hq; split at hq <;> simp at hq)
        | nil =>
          cases em : mutO i (kIns j d) ρ1 with
          | none => simp only [em] at af1; exact False.elim af1
          | some ρ2 =>
            simp only [em] at af1
            obtain ⟨ds, es, h1, h2, rfl⟩ := mutO_some em
            obtain ⟨q, vs, s1, f1, g1, r1⟩ := slok_ow (n1.rp.sl i _ h1)
            rw [s0] at s1
            cases s1
            cases j <;> simp only [kIns, reduceCtorEq] at h2
            rename_i k
            split at h2
            · rename_i hs
              rw [Bool.and_eq_true] at hs
              have hs3 := hs.2
              rw [Bool.and_eq_true] at hs3
              have hs4 : _ ≤ 100000 := of_decide_eq_true hs3.2
              have hs5 := of_decide_eq_true hs3.1
              have hk : 0 ≤ k ∧ k < 2 ^ 63 := ⟨hs5, by omega⟩
              cases h2
              have ek := rep_int ra1
              subst ek
              refine ⟨p, vs, k, v2, rfl, rfl, g1, by rw [repA_len r1]; exact small_lt hs.1, hk.1, hk.2, ?_⟩
              exact af1 σ Hf1 _ (n1.rp.mut h1 s0 (repA_append (repA_append (repA_take _ r1) (.cons ra2 .nil)) (repA_drop _ r1))) (.refl _ _)
            · cases h2
@[simp] def sClear (i : Nat) : Rho → Fl := fun ρ => match mutO i (fun _ => some []) ρ with
  | some ρ2 => .nx ρ2
  | none => .bad
end
end Fx
namespace Fx
open PySem L2
variable [Tabz]
section
variable {X : Cx} {G : Gx} {e a b c tg : Expr} {es : List Expr} {f : M PyData} {fs : M (List PyData)} {pos p : Pos} {A B : Opd} {As : List Opd} {pn : List Nat} {k : Nat} {ps : List Str} {x : Str}
@[simp] def callPM (F : List PyData → Out Rt) (xs : List PyData) : M PyData := fun ρ => match F xs with
  | .ok (.fz d) => if (sc d).isSome then .ok (d, ρ) else .bad
  | .ok _ => .bad
  | .exc c => .exc c ρ
  | .bad => .bad
@[simp] def fCallP (F : List PyData → Out Rt) (As : List Opd) : M PyData := fun ρ => (bnd (goAll As) fun as ρ => match atAll As as ρ with
  | some xs => callPM F xs ρ
  | none => .bad) ρ
@[simp] def sSetC (i : Nat) (F : List PyData → Out Rt) (fs : M (List PyData)) : Rho → Fl := fun ρ => (sBnd fs fun ds ρ1 => match F ds with
  | .ok (.fz d) => .nx (ρ1.set i (.fz d))
  | .ok (.ow es) => .nx (ρ1.set i (.ow es))
  | .ok (.tr _) => .bad
  | .exc c => .exc c ρ1
  | .bad => .bad) ρ
end
end Fx
namespace Fx
open PySem L2
def Kp (h h' : Heap) : Prop := ∀ b o, h.get? b = some o → h'.get? b = some o
theorem Kp.refl (h : Heap) : Kp h h := fun _ _ e => e
theorem Kp.trans {h h1 h2 : Heap} (a : Kp h h1) (b : Kp h1 h2) : Kp h h2 := fun c o e => b c o (a c o e)
def KI (prog : Program) (w : World) (A : Around) (env : Env) (h0 : Heap) (e : Expr) (P : Value → Prop) : Prop :=
  ∀ (s : Shared) (E Q : Value → Shared → Prop), Kp h0 s.heap → (∀ v h' tk, Kp s.heap h' → P v → Q v { s with heap := h', toks := tk }) → wpAny (model prog w) A (eval e env) Q E s
section
variable {prog : Program} {w : World} {A : Around} {env : Env} {h0 : Heap} {a b e : Expr} {pos : Pos} {x : Str} {v : Value} {i j : Int}
theorem KI.imp {P P' : Value → Prop} (h : KI prog w A env h0 e P) (g : ∀ v, P v → P' v) : KI prog w A env h0 e P' := fun s E Q k q => h s E Q k fun v h' tk k' p => q v h' tk k' (g v p)
end
inductive Kx where
  | col (j : Nat)
  | neg (j : Nat)
  | zsub (j : Nat)
  | pl
@[simp] def colI (ds : List PyData) (j : Nat) : Option Int := match ds[j]? with
  | some (.int x) => some x
  | _ => none
@[simp] def Kx.val (ds : List PyData) (k : Int) : Kx → Option Int
  | .col j => colI ds j
  | .neg j => (colI ds j).map fun x => -x
  | .zsub j => (colI ds j).map fun x => 0 - x
  | .pl => some k
def Kx.is (r a : Str) : Kx → Expr → Prop
  | .col j, e => j < 100 ∧ ∃ n p1 p2 p3 p4 p5, e = .Subscript (.Subscript (.Name r p1) (.Name a p2) p3) (.Constant (.int j) n p4) p5
  | .neg j, e => j < 100 ∧ ∃ n p1 p2 p3 p4 p5 p6, e = .UnaryOp .USub (.Subscript (.Subscript (.Name r p1) (.Name a p2) p3) (.Constant (.int j) n p4) p5) p6
  | .zsub j, e => j < 100 ∧ ∃ n p1 p2 p3 p4 p5 p6 n2 p7, e = .BinOp (.Constant (.int 0) n2 p7) .Sub (.Subscript (.Subscript (.Name r p1) (.Name a p2) p3) (.Constant (.int j) n p4) p5) p6
  | .pl, e => ∃ p, e = .Name a p
@[simp] def valsK (ds : List PyData) (k : Int) : List Kx → Option (List Int)
  | [] => some []
  | x :: xs => (match x.val ds k, valsK ds k xs with
    | some i, some is => some (i :: is)
    | _, _ => none)
end Fx
namespace Fx
open PySem L2
variable [Tabz]
@[simp] def lexLe : List Int → List Int → Bool
  | [], _ => true
  | _ :: _, [] => false
  | a :: as, b :: bs => decide (a < b) || (decide (a = b) && lexLe as bs)
@[simp] def keyOf (kx : List Kx) (rows : List PyData) (k : Int) : Option (List Int) := if 0 ≤ k then (match rows[k.toNat]? with
  | some (.tuple ds) => valsK ds k kx
  | _ => none) else none
@[simp] def keyI (kx : List Kx) (rows : List PyData) (k : Int) : List Int := (keyOf kx rows k).getD []
noncomputable def sortKy (kx : List Kx) (rows : List PyData) (ns : List Int) : List Int := ns.mergeSort fun a b => lexLe (keyI kx rows a) (keyI kx rows b)
@[simp] noncomputable def oSortK (kx : List Kx) (r d : PyData) : Option (List PyData) := match r, d with
  | .list rs, .list ds => (match asInts ds with
    | some ns => if ns.all fun k => (keyOf kx rs k).isSome then some ((sortKy kx rs ns).map PyData.int) else none
    | none => none)
  | _, _ => none
@[simp] noncomputable def fSortK (i : Nat) (kx : List Kx) (f : M PyData) : M (List PyData) := fun ρ => (bnd f fun d ρ1 => match (ρ1[i]? : Option Sl) with
  | some (.fz r) => opt (oSortK kx r d) ρ1
  | _ => .bad) ρ
end Fx
namespace Fx
open PySem L2
variable [Tabz]
section
variable {X : Cx} {G : Gx} {e a b : Expr} {es : List Expr} {f g : M PyData} {pos : Pos} {A B : Opd} {As : List Opd}
@[simp] def oLr1 (d : PyData) : Option (List PyData) := match d with
  | .int n => if small n.natAbs then some ((List.range n.toNat).map fun i => PyData.int (i : Nat)) else none
  | _ => none
@[simp] def fLr1 (f : M PyData) : M (List PyData) := fun ρ => (bnd f fun d => opt (oLr1 d)) ρ
noncomputable def sortI (ns : List Int) : List Int := ns.mergeSort fun a b => decide (a ≤ b)
@[simp] noncomputable def oSortI : List PyData → Option (List PyData)
  | [.list ds] => (asInts ds).map fun ns => (sortI ns).map PyData.int
  | _ => none
@[simp] def oRev (d : PyData) : Option (List PyData) := match d with
  | .list ds => some ds.reverse
  | _ => none
@[simp] def fRev (f : M PyData) : M (List PyData) := fun ρ => (bnd f fun d => opt (oRev d)) ρ
def maxI : List Int → Option Int
  | [] => none
  | x :: xs => some (xs.foldl (fun a b => if b > a then b else a) x)
def minI : List Int → Option Int
  | [] => none
  | x :: xs => some (xs.foldl (fun a b => if b < a then b else a) x)
@[simp] def oMaxL : List PyData → Option PyData
  | [.list ds] => (match asInts ds with
    | some ns => (maxI ns).map PyData.int
    | none => none)
  | _ => none
@[simp] def oMinL : List PyData → Option PyData
  | [.list ds] => (match asInts ds with
    | some ns => (minI ns).map PyData.int
    | none => none)
  | _ => none
end
end Fx
namespace Fx
open PySem PyProof.Rows L2
variable [Tabz]
section
variable {X : Cx} {G : Gx} {a e : Expr} {f : M PyData} {ta : TE} {p p2 q pos : Pos}
def insU (x : Int) : List Int → List Int
  | [] => [x]
  | y :: ys => if x < y then x :: y :: ys else if x = y then y :: ys else y :: insU x ys
def sortU (ns : List Int) : List Int := ns.foldr insU []
@[simp] def oSortU (d : PyData) : Option (List PyData) := match d with
  | .list ds => (match asInts ds with
    | some ns => if decide (ns.length < 64) then some ((sortU ns).map PyData.int) else none
    | none => none)
  | _ => none
@[simp] def fSortU (f : M PyData) : M (List PyData) := fun ρ => (bnd f fun d => opt (oSortU d)) ρ
end
end Fx
namespace Fx
open PySem L2
variable [Tabz]
end Fx
namespace Fx
open PySem L2
variable [Tabz]
section
variable {X : Cx}
@[simp] def oIsB : PyData → PyData → Option PyData
  | .bool a, .bool b => some (.bool (decide (a = b)))
  | _, _ => none
@[simp] def oNotB : PyData → PyData → Option PyData
  | .bool a, .bool b => some (.bool (!decide (a = b)))
  | _, _ => none
theorem rd_In {K : PySem.W.Frag} : RdO (rInD K) oIn := by
  intro Hf H x y a b d sm ha hb e
  unfold oIn at e
  split at e
  · split at e
    · rename_i hs
      cases e
      exact ⟨_, .bl _, fun Q q => ⟨_, _, rep_dps (Bool.and_eq_true_iff.mp hs).1 (ha.full sm), rep_dps (Bool.and_eq_true_iff.mp hs).2 (hb.full sm), (Bool.and_eq_true_iff.mp hs).1, (Bool.and_eq_true_iff.mp hs).2, q⟩⟩
    · cases e
  · cases e
end
end Fx
namespace Fx
open PySem PySem.Spec PyProof.Rows L2
variable [Tabz]
end Fx
namespace Fx
open PySem L2
variable [Tabz]
def asPairs : List PyData → Option (List (Int × Int))
  | [] => some []
  | .tuple [.int a, .int b] :: r => (asPairs r).map ((a, b) :: ·)
  | _ => none
def encPr (p : Int × Int) : PyData := .tuple [.int p.1, .int p.2]
def leP (a b : Int × Int) : Bool := decide (a.1 < b.1 ∨ a.1 = b.1 ∧ a.2 ≤ b.2)
noncomputable def sortP (ps : List (Int × Int)) : List (Int × Int) := ps.mergeSort leP
@[simp] noncomputable def oSortP : List PyData → Option (List PyData)
  | [.list ds] => (asPairs ds).map fun ps => (sortP ps).map encPr
  | _ => none
end Fx
namespace Mm
open PySem L2 Fx
variable [Tabz]
noncomputable def g_l_pick : Rho → Fl := (sSeq (sIf (tAndM (fB (fOp oLt (.e (fOp oIx (.v 0) (.e (ret (.int 2))))) (.v 1))) (fB (fOp oLt (.e (fOp oIx (.v 0) (.e (ret (.int 1))))) (.e (fCB oLen [(.e (fOp oIx (.v 0) (.e (ret (.int 0)))))]))))) (sSeq (sSet 2 (fOp oIx (.e (fOp oIx (.v 0) (.e (ret (.int 0))))) (.e (fOp oIx (.v 0) (.e (ret (.int 1)))))))
    (sSeq (sSetIx 0 (fOp oAdd (.e (fOp oIx (.v 0) (.e (ret (.int 1))))) (.e (ret (.int 1)))) (ret (.int 1)))
    (sSeq (sSetIx 0 (ret (.int 0)) (ret (.int 2)))
    (sIf (fB (fOp oGe (.v 2) (.e (fOp oPow (.e (ret (.int 10))) (.e (ret (.int 18))))))) (sSetIx 0 (fVar 2) (ret (.int 2))) (sSetIx 0 (fOp oMod (.e (fOp oAdd (.e (fOp oIx (.v 0) (.e (ret (.int 3))))) (.v 2))) (.e (ret (.int 1000000007)))) (ret (.int 3))))))) sNil)
    (sSeq (sIf (fB (fOp oGe (.e (fOp oIx (.v 0) (.e (ret (.int 2))))) (.v 1))) (sSeq (sSet 3 (fOp oMod (.e (fOp oIx (.v 0) (.e (ret (.int 2))))) (.v 1)))
    (sSeq (sSetIx 0 (fOp oDiv (.e (fOp oIx (.v 0) (.e (ret (.int 2))))) (.v 1)) (ret (.int 2)))
    (sRetV0 3))) sNil)
    (sSeq (sSetIx 0 (fOp oAdd (.e (fOp oIx (.v 0) (.e (ret (.int 4))))) (.e (ret (.int 1)))) (ret (.int 4)))
    (sSeq (sSetIx 0 (fOp oMod (.e (fOp oAdd (.e (fOp oAdd (.e (fOp oPow (.e (fOp oIx (.v 0) (.e (ret (.int 3))))) (.e (ret (.int 3))))) (.e (fOp oMul (.e (ret (.int 40503))) (.e (fOp oIx (.v 0) (.e (ret (.int 4))))))))) (.e (ret (.int 17))))) (.e (ret (.int 1000000007)))) (ret (.int 3)))
    (sRet (fOp oMod (.e (fOp oDiv (.e (fOp oIx (.v 0) (.e (ret (.int 3))))) (.e (ret (.int 5))))) (.v 1)))))))
noncomputable abbrev F_l_pick := runI 4 g_l_pick 2
noncomputable def g_l_same (Fr : List PyData → Out Rt) : Rho → Fl := (sSeq (sIf (fB (fUn oIsN (.v 1))) (sRet (fUn oIsN (.v 0))) sNil)
    (sSeq (sIf (tOrM (fB (fUn (oIs "bool") (.v 1))) (fB (fUn (oIs "bool") (.v 0)))) (sRet (vAnd (fUn (oIs "bool") (.v 1)) (vAnd (fUn (oIs "bool") (.v 0)) (fOp oEQ (.v 0) (.v 1))))) sNil)
    (sSeq (sIf (fB (fUn (oIs2 "int" "str") (.v 1))) (sRet (vAnd (fOp oEQ (.e (fUn (oIs "int") (.v 0))) (.e (fUn (oIs "int") (.v 1)))) (vAnd (fUn (oIs2 "int" "str") (.v 0)) (fOp oEQ (.v 0) (.v 1))))) sNil)
    (sSeq (sIf (tOrM (fB (fOp oNE (.e (fUn (oIs "list") (.v 0))) (.e (fUn (oIs "list") (.v 1))))) (fB (fOp oNE (.e (fUn (oIs "tuple") (.v 0))) (.e (fUn (oIs "tuple") (.v 1)))))) (sRet (ret (.bool false))) sNil)
    (sSeq (sIf (fB (fOp oNE (.e (fCB oLen [(.v 0)])) (.e (fCB oLen [(.v 1)])))) (sRet (ret (.bool false))) sNil)
    (sRet (fCB oAll [(.e (fLst (fLc (fAB oZip (fCons (fVar 0) (fCons (fVar 1) fNil))) (gTp (gsCons (gSet 2) (gsCons (gSet 3) gsNil))) (ret true) (fCall Fr (fCons (fVar 2) (fCons (fVar 3) fNil))) [2, 3])))])))))))
noncomputable def F_l_same_at : Nat → List PyData → Out Rt
  | 0 => fun _ => .bad
  | n + 1 => runP 4 (g_l_same (F_l_same_at n)) 2
theorem F_l_same_len : ∀ n ds r, F_l_same_at n ds = r → r ≠ .bad → ds.length = 2
  | 0, _, _, e, h => absurd e.symm h
  | n + 1, ds, r, e, h => runP_len ds r e h
noncomputable def F_l_same := F_l_same_at 8
end Mm
namespace Fx
open PySem L2
variable [Tabz]
def AfN (G : Gx) (σ : St) (ρ : Rho) (Hf H : Hp) (Q : VK) : Res Tr → Prop
  | .ok (t, ρ') => ∀ v F Hf' H', Nxt G.q σ ρ Hf H σ ρ' Hf' H' → TR Hf' H' v t F → F.Nodup → (∀ a ∈ F, Fre H σ ρ a ∧ Hf' a = none ∧ ¬ OwnA H' σ ρ' a) → Q v H'
  | .exc c ρ' => ∀ Hf' H', Nxt G.q σ ρ Hf H σ ρ' Hf' H' → G.W (.ref (G.cA c)) none σ H'
  | .bad => False
def tN (G : Gx) (f : M Tr) : TE := fun σ H Q => ∃ Hf ρ, Rp Hf H σ ρ ∧ AfN G σ ρ Hf H Q (f ρ)
section
variable {X : Cx} {G : Gx} {e a b : Expr} {es : List Expr} {f g : M D} {fs : M (List D)} {pos : Pos} {A B : Opd} {As : List Opd} {pn : List Nat} {σ : St} {ρ ρ1 : Rho} {Hf H Hf1 H1 : Hp}
theorem AfN.later {Q : VK} (n : Nxt G.q σ ρ Hf H σ ρ1 Hf1 H1) : ∀ {o : Res Tr}, AfN G σ ρ Hf H Q o → AfN G σ ρ1 Hf1 H1 Q o
  | .ok (a, ρ'), q => fun v F Hf' H' n' r nd h => q v F Hf' H' (n.trans n') r nd fun a m => ⟨(h a m).1.back n, (h a m).2⟩
  | .exc c ρ', q => fun Hf' H' n' => q Hf' H' (n.trans n')
  | .bad, q => q
theorem stepN {α γ : Type} {R1 : Hp → α → γ → Prop} {Q : VK} {g : M γ} {k : γ → M Tr} (rp : Rp Hf H σ ρ) (af : AfN G σ ρ Hf H Q (bnd g k ρ)) :
    tG G R1 g σ H fun y H1 => ∃ b Hf1 ρ1, Nxt G.q σ ρ Hf H σ ρ1 Hf1 H1 ∧ R1 Hf1 y b ∧ AfN G σ ρ1 Hf1 H1 Q (k b ρ1) := by
  refine ⟨Hf, ρ, rp, ?_⟩
  unfold bnd at af
  cases e : g ρ with
  | ok p =>
    obtain ⟨b, ρ1⟩ := p
    rw [e] at af
    exact fun x Hf1 H1 n r => ⟨b, Hf1, ρ1, n, r, af.later n⟩
  | exc c ρ1 => rw [e] at af; exact af
  | bad => rw [e] at af; exact af
theorem tN.mono {f : M Tr} {Q Q' : VK} (h : ∀ x H, Q x H → Q' x H) (t : tN G f σ H Q) : tN G f σ H Q' := by
  obtain ⟨Hf, ρ, rp, q⟩ := t
  refine ⟨Hf, ρ, rp, ?_⟩
  cases e : f ρ with
  | ok x => obtain ⟨t, ρ'⟩ := x; rw [e] at q; exact fun v F Hf' H' n r nd z => h _ _ (q v F Hf' H' n r nd z)
  | exc c ρ' => rw [e] at q; exact q
  | bad => rw [e] at q; exact q
@[simp] def nE (f : M D) : M Tr := fun ρ => (bnd f fun d => ret (.fz d)) ρ
theorem fn_E (h : PE X e (tE G f)) : PE X e (tN G (nE f)) := by
  refine h.imp fun σ H Q ⟨Hf, ρ, rp, af⟩ => ?_
  exact (stepN rp af).mono fun x H1 ⟨d, Hf1, ρ1, n1, ra, af1⟩ => af1 x [] Hf1 H1 (.refl n1.rp) (.fz ra) List.nodup_nil fun _ z => nomatch z
@[simp] def nL (f : M (List D)) : M Tr := fun ρ => (bnd f fun d => ret (.ow d)) ρ
mutual
def frzT : Tr → Option D
  | .fz d => some d
  | .ow ds => some (.list ds)
  | .dk ks ds => some (.dict ((ks.map kD).zip ds))
  | .dt _ _ => none
  | .nd .lst ts => (frzTs ts).map PyData.list
  | .nd .tup ts => (frzTs ts).map PyData.tuple
  | .nd (.ins c) ts => (frzTs ts).map (instD c)
  | .nd (.dct ks) ts => (frzTs ts).map fun ds => PyData.dict ((ks.map kD).zip ds)
def frzTs : List Tr → Option (List D)
  | [] => some []
  | t :: ts => match frzT t with
    | some d => (frzTs ts).map (d :: ·)
    | none => none
end
def frH (Hf H : Hp) (F : List Addr) : Hp := fun a => if a ∈ F then H a else Hf a
theorem frH_in {F : List Addr} {a : Addr} (h : a ∈ F) : frH Hf H F a = H a := by unfold frH; rw [if_pos h]
theorem frH_out {F : List Addr} {a : Addr} (h : a ∉ F) : frH Hf H F a = Hf a := by unfold frH; rw [if_neg h]
theorem frH_same {F : List Addr} (h : ∀ a ∈ F, Hf a = none) : Same Hf (frH Hf H F) := fun a o e => by
  rw [frH_out fun m => by rw [h a m] at e; cases e]; exact e
theorem frH_sub {F : List Addr} (h : Same Hf H) : Same (frH Hf H F) H := fun a o e => by
  by_cases m : a ∈ F
  · rw [frH_in m] at e; exact e
  · rw [frH_out m] at e; exact h a o e
mutual
theorem TR.frz {Hf' : Hp} (e : Same Hf Hf') : ∀ {v : V} {t : Tr} {F : List Addr} {d : D}, TR Hf H v t F → (∀ a ∈ F, Hf' a = H a) → frzT t = some d → Rep Hf' v d
  | _, _, _, _, .fz r, k, q => by cases q; exact rep_same e r
  | _, _, _, _, .ow h r, k, q => by cases q; exact .lst ((k _ (List.mem_singleton.mpr rfl)).trans h) (repA_same e r)
  | _, _, _, _, .dk h l r, k, q => by cases q; exact .dct ((k _ (List.mem_singleton.mpr rfl)).trans h) l (repA_same e r)
  | _, _, _, _, .dt _ _ _, k, q => by cases q
  | _, _, _, d, .nd (p := p) (k := kk) (vs := vs) (ts := ts) (F := F) h r, k, q => by
    have hp := h.of (k p List.mem_cons_self)
    have rk : ∀ ds, frzTs ts = some ds → RepA Hf' vs ds := fun ds q => TRs.frz e r (fun a z => k a (List.mem_cons_of_mem _ z)) q
    cases kk with
    | lst =>
      simp only [frzT] at q
      cases q2 : frzTs ts with
      | none => rw [q2] at q; cases q
      | some ds => rw [q2] at q; cases q; exact .lst hp (rk ds q2)
    | tup =>
      simp only [frzT] at q
      cases q2 : frzTs ts with
      | none => rw [q2] at q; cases q
      | some ds => rw [q2] at q; cases q; exact .tup hp (rk ds q2)
    | ins c =>
      simp only [frzT] at q
      cases q2 : frzTs ts with
      | none => rw [q2] at q; cases q
      | some ds =>
        rw [q2] at q; cases q
        obtain ⟨l, dx, h1⟩ := hp
        exact .ins h1 l (rk ds q2)
    | dct ks =>
      simp only [frzT] at q
      cases q2 : frzTs ts with
      | none => rw [q2] at q; cases q
      | some ds =>
        rw [q2] at q; cases q
        obtain ⟨l, h1⟩ := hp
        exact .dct h1 l (rk ds q2)
theorem TRs.frz {Hf' : Hp} (e : Same Hf Hf') : ∀ {v : List V} {t : List Tr} {F : List Addr} {d : List D}, TRs Hf H v t F → (∀ a ∈ F, Hf' a = H a) → frzTs t = some d → RepA Hf' v d
  | _, _, _, _, .nil, k, q => by cases q; exact .nil
  | _, _, _, _, .cons (t := t) (ts := ts) h r, k, q => by
    simp only [frzTs] at q
    cases q1 : frzT t with
    | none => rw [q1] at q; cases q
    | some d1 =>
      rw [q1] at q
      dsimp only at q
      cases q2 : frzTs ts with
      | none => rw [q2] at q; cases q
      | some ds =>
        rw [q2] at q; cases q
        exact .cons (TR.frz e h (fun a z => k a (List.mem_append_left _ z)) q1) (TRs.frz e r (fun a z => k a (List.mem_append_right _ z)) q2)
end
theorem Nxt.takeT {q : Bool} {σ : St} {ρ ρ0 : Rho} {Hf H Hf0 H0 : Hp} (n : Nxt q σ ρ0 Hf0 H0 σ ρ Hf H) {v : V} {t : Tr} {F : List Addr} {d : D} (r : TR Hf H v t F) (hF : ∀ a ∈ F, Fre H0 σ ρ0 a ∧ Hf a = none ∧ ¬ OwnA H σ ρ a) (e : frzT t = some d) : Nxt q σ ρ0 Hf0 H0 σ ρ (frH Hf H F) H ∧ Rep (frH Hf H F) v d := by
  have e1 : Same Hf (frH Hf H F) := frH_same fun a m => (hF a m).2.1
  have rp := n.rp
  refine ⟨⟨n.sub.trans e1, n.keep, n.os, n.ls, n.dom, fun a z => (n.fr a z).elim (fun q => (by
    by_cases w : a ∈ F
    · exact .inr (hF a w).1
    · exact .inl (by rw [frH_out w]; exact q))) .inr, n.qt, rp.grow e1 (frH_sub rp.sub) rp.tb (fun a ps z => ?_) (fun a z => ⟨?_, rfl⟩) fun _ _ => rfl⟩, r.frz e1 (fun a m => frH_in m) e⟩
  · by_cases w : a ∈ F
    · rw [frH_in w] at z
      obtain ⟨o, ho, no⟩ := r.obj a w
      rw [ho] at z
      exact no ps (Option.some.inj z)
    · rw [frH_out w] at z
      exact rp.nt a ps z
  · rw [frH_out fun m => (hF a m).2.2 z]
    exact (rp.own z).1
@[simp] def fFrz (f : M Tr) : M D := fun ρ => (bnd f fun t => opt (frzT t)) ρ
theorem fe_frz {f : M Tr} (h : PE X e (tN G f)) : PE X e (tE G (fFrz f)) := by
  refine h.imp fun σ H Q ⟨Hf, ρ, rp, af⟩ => ⟨Hf, ρ, rp, ?_⟩
  unfold fFrz bnd at af
  cases e : f ρ with
  | ok x =>
    obtain ⟨t, ρ1⟩ := x
    rw [e] at af
    dsimp only at af
    unfold opt at af
    cases e2 : frzT t with
    | none => rw [e2] at af; exact af.elim
    | some d =>
      rw [e2] at af
      intro v F Hf' H' n r nd hF
      obtain ⟨n2, r2⟩ := n.takeT r hF e2
      exact af _ _ _ n2 r2
  | exc c ρ1 => rw [e] at af; exact af
  | bad => rw [e] at af; exact af
@[simp] def plN (i : Nat) : M Pth := fun ρ => match ρ[i]? with
  | some (.tr _) => .ok ((i, []), ρ)
  | some (.lk _) => .ok ((i, []), ρ)
  | some (.pa k qs) => if (trAt (k, qs) ρ).isSome = true then .ok ((k, qs), ρ) else .bad
  | _ => .bad
theorem At.snoc {v w u : V} {t s s' : Tr} {qs : List Nat} {p : Addr} {k : Nk} {vs : List V} {ts : List Tr} {n : Nat} (h : At H v t qs w s) (es : s = .nd k ts) (ew : w = .ref p) (hn : NodeOk H p k vs) (h1 : vs[n]? = some u) (h2 : ts[n]? = some s') : At H v t (qs ++ [n]) u s' := by
  induction h with
  | nil => subst es ew; exact .cons hn h1 h2 .nil
  | cons a b c d ih => exact .cons a b c (ih es ew)
theorem AfP.later {Q : VK} (n : Nxt G.q σ ρ Hf H σ ρ1 Hf1 H1) : ∀ {o : Res Pth}, AfP G σ ρ Hf H Q o → AfP G σ ρ1 Hf1 H1 Q o
  | .ok (a, ρ'), q => fun v s Hf' H' n' r => q v s Hf' H' (n.trans n') r
  | .exc c ρ', q => fun Hf' H' n' => q Hf' H' (n.trans n')
  | .bad, q => q
@[simp] def plF (f : M Pth) (c : Str) (n : Nat) : M Pth := fun ρ => (bnd f fun p ρ => match trAt p ρ with
  | some (.nd (.ins c') ts) => if c' = c ∧ n < ts.length then .ok ((p.1, p.2 ++ [n]), ρ) else .bad
  | _ => .bad) ρ
@[simp] def fRd (f : M Pth) : M D := fun ρ => (bnd f fun p ρ => match trAt p ρ with
  | some (.fz d) => .ok (d, ρ)
  | _ => .bad) ρ
end
end Fx
namespace Fx
open PySem L2
variable [Tabz]
def killS (kf : List Nat → Bool) (i : Nat) : Sl → Sl
  | .pa k q => if k = i ∧ kf q = false then .un else .pa k q
  | s => s
section
variable {kf : List Nat → Bool} {i : Nat}
@[simp] theorem killS_un : killS kf i .un = .un := rfl
@[simp] theorem killS_fz {d : D} : killS kf i (.fz d) = .fz d := rfl
@[simp] theorem killS_ow {d : List D} : killS kf i (.ow d) = .ow d := rfl
@[simp] theorem killS_raw {d : V} : killS kf i (.raw d) = .raw d := rfl
@[simp] theorem killS_tr {d : Tr} : killS kf i (.tr d) = .tr d := rfl
@[simp] theorem killS_lk {d : Tr} : killS kf i (.lk d) = .lk d := rfl
@[simp] theorem killS_pa {k : Nat} {q : List Nat} : killS kf i (.pa k q) = if k = i ∧ kf q = false then .un else .pa k q := rfl
@[simp] def killB (kf : List Nat → Bool) (i : Nat) (ρ : Rho) : Rho := ρ.map (killS kf i)
@[simp] def kNo : List Nat → Bool := fun _ => false
theorem killB_get {ρ : Rho} {j : Nat} {s : Sl} (h : (killB kf i ρ)[j]? = some s) : (ρ[j]? = some s ∧ ∀ k q, s = .pa k q → k = i → kf q = true) ∨ (s = .un ∧ ∃ q, ρ[j]? = some (.pa i q)) := by
  unfold killB at h
  rw [List.getElem?_map] at h
  cases e : ρ[j]? with
  | none => rw [e] at h; cases h
  | some s0 =>
    rw [e] at h
    cases s0 with
    | pa k q =>
      simp only [Option.map_some, Option.some.injEq, killS_pa] at h
      by_cases z : k = i ∧ kf q = false
      · rw [if_pos z] at h
        exact .inr ⟨h.symm, q, by rw [z.1]⟩
      · rw [if_neg z] at h
        subst h
        refine .inl ⟨rfl, fun k' q' y ek => ?_⟩
        cases y
        cases hq : kf q with
        | true => rfl
        | false => exact absurd ⟨ek, hq⟩ z
    | un => cases h; exact .inl ⟨rfl, fun _ _ y => nomatch y⟩
    | fz _ => cases h; exact .inl ⟨rfl, fun _ _ y => nomatch y⟩
    | ow _ => cases h; exact .inl ⟨rfl, fun _ _ y => nomatch y⟩
    | raw _ => cases h; exact .inl ⟨rfl, fun _ _ y => nomatch y⟩
    | tr _ => cases h; exact .inl ⟨rfl, fun _ _ y => nomatch y⟩
    | lk _ => cases h; exact .inl ⟨rfl, fun _ _ y => nomatch y⟩
theorem killB_len {ρ : Rho} : (killB kf i ρ).length = ρ.length := List.length_map _
theorem killB_at {ρ : Rho} {j : Nat} {s : Sl} (h : ρ[j]? = some s) (hn : ∀ k q, s ≠ .pa k q) : (killB kf i ρ)[j]? = some s := by
  unfold killB
  rw [List.getElem?_map, h]
  cases s <;> first | rfl | exact absurd rfl (hn _ _)
end
section
variable {q : Bool} {Hf Hf' H H' : Hp} {σ σ' : St} {ρ ρ' : Rho}
theorem ownI_tr {i : Nat} {t : Tr} {v : V} {F : List Addr} (hi : ρ[i]? = some (.tr t)) (hv : σ[i]? = some (some v)) (r : TR Hf H v t F) {a : Addr} : OwnI H σ ρ i a ↔ a ∈ F := by
  constructor
  · rintro ⟨s, w, e1, e2, o⟩
    rw [hi] at e1; cases e1
    rw [hv] at e2; cases e2
    obtain ⟨Hf0, F0, r0, m⟩ := o
    have e := r.inj r0
    subst e
    exact m
  · intro m
    exact ⟨_, _, hi, hv, Hf, F, r, m⟩
@[simp] def toSl : Tr → Sl
  | .fz d => .fz d
  | .ow ds => .ow ds
  | t => .tr t
end
section
variable {X : Cx} {G : Gx} {e a b : Expr} {es : List Expr} {f g : M D} {fs : M (List D)} {pos : Pos} {A B : Opd} {As : List Opd} {pn : List Nat} {σ : St} {ρ ρ1 : Rho} {Hf H Hf1 H1 : Hp}
@[simp] def sSetT (i : Nat) (f : M Tr) : Rho → Fl := fun ρ => (sBnd f fun t ρ => .nx ((killB kNo i ρ).set i (toSl t))) ρ
@[simp] def toRt : Tr → Rt
  | .fz d => .fz d
  | .ow ds => .ow ds
  | t => .tr t
@[simp] def sRetT (f : M Tr) : Rho → Fl := fun ρ => (sBnd f fun t ρ => .ret (toRt t) ρ) ρ
@[simp] def sRetVT (i : Nat) : Rho → Fl := fun ρ => match ρ[i]? with
  | some (.tr t) => .ret (.tr t) (ρ.set i .un)
  | _ => .bad
end
end Fx
namespace Fx
open PySem L2
variable [Tabz]
inductive Ar where
  | d (x : PyData)
  | l (t : Tr)
  | o (t : Tr)
inductive OT where
  | ok (r : Rt) (os : List Ar)
  | exc (c : Str) (os : List Ar)
  | bad
def ArOk (Hf H : Hp) (v : V) : Ar → List Addr → Prop
  | .d x, F => F = [] ∧ Rep Hf v x
  | .l t, F => TR Hf H v t F
  | .o t, F => TR Hf H v t F ∧ F.Nodup ∧ ∀ a ∈ F, Hf a = none
structure ArsOk (Hf H : Hp) (vs : List V) (as : List Ar) (Fs : Nat → List Addr) : Prop where
  len : vs.length = as.length
  ok : ∀ (i : Nat) (v : V) (a : Ar), vs[i]? = some v → as[i]? = some a → ArOk Hf H v a (Fs i)
  nd : ∀ (i j : Nat) (a : Addr) (t t' : Tr), as[i]? = some (.o t) → as[j]? = some (.o t') → a ∈ Fs i → a ∈ Fs j → i = j
  lk : ∀ (i j : Nat) (a : Addr) (t t' : Tr), as[i]? = some (.l t) → as[j]? = some (.o t') → a ∈ Fs i → a ∉ Fs j
def IoA (as : List Ar) (Fs : Nat → List Addr) (a : Addr) : Prop := ∃ (i : Nat) (t : Tr), as[i]? = some (.o t) ∧ a ∈ Fs i
structure EndT (Hf H : Hp) (vs : List V) (as : List Ar) (Fs : Nat → List Addr) (Hf' H' : Hp) (os : List Ar) (Gs : Nat → List Addr) : Prop where
  sub : Same Hf Hf'
  sb : Sb Hf' H'
  keep : ∀ a o, H a = some o → NT o → ¬ IoA as Fs a → H' a = some o
  dom : ∀ a, H' a = none → H a = none
  fr : ∀ a, Hf a = none → Hf' a = none ∨ H a = none ∨ IoA as Fs a
  out : ∀ (i : Nat) (v : V) (t : Tr), vs[i]? = some v → os[i]? = some (.o t) → TR Hf' H' v t (Gs i) ∧ (Gs i).Nodup ∧ ∀ a ∈ Gs i, Hf' a = none ∧ (IoA as Fs a ∨ H a = none)
  nd : ∀ (i j : Nat) (a : Addr) (t t' : Tr), os[i]? = some (.o t) → os[j]? = some (.o t') → a ∈ Gs i → a ∈ Gs j → i = j
  shp : ∀ i : Nat, (∃ t0, as[i]? = some (.o t0)) → ∃ t, os[i]? = some (.o t)
@[simp] def arSl : Ar → Sl
  | .d x => .fz x
  | .l t => .lk t
  | .o t => toSl t
@[simp] def slTr : Sl → Option Tr
  | .tr t => some t
  | .ow ds => some (.ow ds)
  | _ => none
@[simp] def outs : List Ar → Rho → Option (List Ar)
  | [], _ => some []
  | .o _ :: as, s :: ρ => (match slTr s with
    | some t => (outs as ρ).map (Ar.o t :: ·)
    | none => none)
  | .d x :: as, _ :: ρ => (outs as ρ).map (Ar.d x :: ·)
  | .l t :: as, _ :: ρ => (outs as ρ).map (Ar.l t :: ·)
  | _ :: _, [] => none
@[simp] def toOutT (as : List Ar) : Fl → OT
  | .nx ρ => (match outs as ρ with
    | some os => .ok (.fz .none) os
    | none => .bad)
  | .ret r ρ => (match outs as ρ with
    | some os => .ok r os
    | none => .bad)
  | .exc c ρ => (match outs as ρ with
    | some os => .exc c os
    | none => .bad)
  | _ => .bad
@[simp] def arM : Ar → Nat
  | .d _ => 0
  | .l _ => 1
  | .o _ => 2
def stT (n : Nat) (as : List Ar) : Rho := as.map arSl ++ List.replicate (n - as.length) Sl.un
@[simp] def runT (n : Nat) (g : Rho → Fl) (md : List Nat) (as : List Ar) : OT := if as.map arM = md then toOutT as (g (stT n as)) else .bad
end Fx
namespace Fx
open PySem L2
variable [Tabz]
mutual
def leafT : PyData → Tr
  | .list ds => .ow ds
  | .dict [(.none, .str c), (.none, .tuple ds)] => .nd (.ins c) (leafTs ds)
  | d => .fz d
def leafTs : List PyData → List Tr
  | [] => []
  | d :: ds => leafT d :: leafTs ds
end
theorem leafTs_map : ∀ ds : List PyData, leafTs ds = ds.map leafT
  | [] => by simp [leafTs]
  | d :: ds => by simp [leafTs, leafTs_map ds]
@[simp] theorem leafT_list {ds : List PyData} : leafT (.list ds) = .ow ds := by simp [leafT]
@[simp] theorem leafT_inst {c : Str} {ds : List PyData} : leafT (instD c ds) = .nd (.ins c) (ds.map leafT) := by simp [instD, leafT, leafTs_map]
@[simp] theorem leafT_none : leafT .none = .fz .none := by simp [leafT]
@[simp] theorem leafT_bool {b : Bool} : leafT (.bool b) = .fz (.bool b) := by simp [leafT]
@[simp] theorem leafT_int {i : Int} : leafT (.int i) = .fz (.int i) := by simp [leafT]
@[simp] theorem leafT_str {x : Str} : leafT (.str x) = .fz (.str x) := by simp [leafT]
@[simp] theorem leafT_tup {ds : List PyData} : leafT (.tuple ds) = .fz (.tuple ds) := by simp [leafT]
def unkD : PyData → Option Key
  | .int i => some (.inl i)
  | .str x => some (.inr x)
  | _ => none
def keysD : List (PyData × PyData) → Option (List Key)
  | [] => some []
  | (k, _) :: r => match unkD k with
    | some k => (keysD r).map (k :: ·)
    | none => none
def unfr : PyData → Option Tr
  | .list ds => some (.ow ds)
  | .dict [(.none, .str c), (.none, .tuple ds)] => some (.nd (.ins c) (ds.map leafT))
  | .dict kvs => (keysD kvs).map fun ks => .nd (.dct ks) (kvs.map fun p => leafT p.2)
  | _ => none
@[simp] theorem unfr_list {ds : List PyData} : unfr (.list ds) = some (.ow ds) := rfl
@[simp] theorem unfr_inst {c : Str} {ds : List PyData} : unfr (instD c ds) = some (.nd (.ins c) (ds.map leafT)) := rfl
section
variable {Hf H : Hp}
theorem unkD_kD (k : Key) : unkD (kD k) = some k := by cases k <;> rfl
theorem keysD_zip : ∀ {ks : List Key} {ds : List PyData}, ks.length = ds.length → keysD ((ks.map kD).zip ds) = some ks ∧ ((ks.map kD).zip ds).map (fun p => leafT p.2) = ds.map leafT
  | [], [], _ => ⟨rfl, rfl⟩
  | k :: ks, d :: ds, h => by
    obtain ⟨h1, h2⟩ := keysD_zip (ks := ks) (ds := ds) (by simpa using h)
    refine ⟨?_, ?_⟩
    · show (match unkD (kD k) with
        | some k => (keysD ((ks.map kD).zip ds)).map (k :: ·)
        | none => none) = _
      rw [unkD_kD, h1]; rfl
    · simp only [List.map_cons, List.zip_cons_cons, h2]
  | [], _ :: _, h => by simp at h
  | _ :: _, [], h => by simp at h
end
inductive Ag where
  | e (f : M PyData)
  | ld (f : M PyData)
  | lp (f : M Pth)
  | op (f : M Pth)
  | ls (i : Nat)
  | os (i : Nat)
inductive AgV where
  | e (d : PyData)
  | ld (d : PyData)
  | lp (p : Pth)
  | op (p : Pth)
  | ls (i : Nat)
  | os (i : Nat)
@[simp] def lsA (i : Nat) (ρ : Rho) : Option Tr := match (ρ[i]? : Option Sl) with
  | some (.tr t) => some t
  | some (.lk t) => some t
  | some (.ow ds) => some (.ow ds)
  | some (.fz d) => unfr d
  | _ => none
@[simp] def osA (i : Nat) (ρ : Rho) : Option Tr := match (ρ[i]? : Option Sl) with
  | some (.tr t) => some t
  | some (.ow ds) => some (.ow ds)
  | _ => none
@[simp] def Ag.go : Ag → M AgV
  | .e f => fun ρ => (bnd f fun d => ret (.e d)) ρ
  | .ld f => fun ρ => (bnd f fun d => ret (.ld d)) ρ
  | .lp f => fun ρ => (bnd f fun p => ret (.lp p)) ρ
  | .op f => fun ρ => (bnd f fun p => ret (.op p)) ρ
  | .ls i => fun ρ => if (lsA i ρ).isSome = true then .ok (.ls i, ρ) else .bad
  | .os i => fun ρ => if (osA i ρ).isSome = true then .ok (.os i, ρ) else .bad
def Ag.t (G : Gx) : Ag → TE
  | .e f => tE G f
  | .ld f => tE G f
  | .lp f => tPl G f
  | .op f => tPl G f
  | .ls i => tVar i
  | .os i => tVar i
def agR (σ : St) (ρ : Rho) (Hf H : Hp) (v : V) : AgV → Prop
  | .e d => Rep Hf v d
  | .ld d => Rep Hf v d
  | .lp p => ∃ s, AtV H σ ρ p v s
  | .op p => ∃ s, AtV H σ ρ p v s
  | .ls i => σ[i]? = some (some v)
  | .os i => σ[i]? = some (some v)
@[simp] def goT : List Ag → M (List AgV)
  | [] => ret []
  | A :: As => bnd A.go fun a => bnd (goT As) fun as => ret (a :: as)
inductive AgAll (σ : St) (ρ : Rho) (Hf H : Hp) : List V → List AgV → Prop
  | nil : AgAll σ ρ Hf H [] []
  | cons {v : V} {vs : List V} {a : AgV} {as : List AgV} : agR σ ρ Hf H v a → AgAll σ ρ Hf H vs as → AgAll σ ρ Hf H (v :: vs) (a :: as)
def AfR (G : Gx) (σ : St) (ρ : Rho) (Hf H : Hp) (Q : VK) : Res Rt → Prop
  | .ok (r, ρ') => ∀ v Hf' H', Nxt G.q σ ρ Hf H σ ρ' Hf' H' → RtOk [] σ ρ H σ ρ' Hf' H' v r → Q v H'
  | .exc c ρ' => ∀ Hf' H', Nxt G.q σ ρ Hf H σ ρ' Hf' H' → G.W (.ref (G.cA c)) none σ H'
  | .bad => False
section
variable {X : Cx} {G Ga : Gx} {e a b : Expr} {es : List Expr} {pos : Pos} {pn : List Nat} {σ : St} {ρ ρ1 ρ2 : Rho} {Hf H Hf1 H1 Hf2 H2 : Hp} {Q : VK}
theorem AfR.later (n : Nxt G.q σ ρ Hf H σ ρ1 Hf1 H1) : ∀ {o : Res Rt}, AfR G σ ρ Hf H Q o → AfR G σ ρ1 Hf1 H1 Q o
  | .ok (a, ρ'), q => fun v Hf' H' n' r => q v Hf' H' (n.trans n') (r.later n)
  | .exc c ρ', q => fun Hf' H' n' => q Hf' H' (n.trans n')
  | .bad, q => q
theorem Ag.run {A : Ag} {Q Q' : VK} (t : A.t G σ H Q) (h : ∀ x H, Q x H → Q' x H) : A.t G σ H Q' := by
  cases A with
  | e f => exact tG.mono h t
  | ld f => exact tG.mono h t
  | lp f => exact tPl.mono h t
  | op f => exact tPl.mono h t
  | ls i => exact ⟨t.choose, t.choose_spec.1, h _ _ t.choose_spec.2⟩
  | os i => exact ⟨t.choose, t.choose_spec.1, h _ _ t.choose_spec.2⟩
end
end Fx
namespace Fx
open PySem L2
variable [Tabz]
@[simp] def arOf : AgV → Rho → Option Ar
  | .e d, _ => some (.d d)
  | .ld d, _ => (unfr d).map .l
  | .lp p, ρ => (trAt p ρ).map .l
  | .op p, ρ => (match (ρ[p.1]? : Option Sl) with
    | some (.tr t) => (t.at p.2).map .o
    | _ => none)
  | .ls i, ρ => (lsA i ρ).map .l
  | .os i, ρ => (osA i ρ).map .o
@[simp] def arsOf : List AgV → Rho → Option (List Ar)
  | [], _ => some []
  | a :: as, ρ => match arOf a ρ with
    | some x => (arsOf as ρ).map (x :: ·)
    | none => none
@[simp] def rootO : AgV → Option Nat
  | .op p => some p.1
  | .os i => some i
  | _ => none
@[simp] def rootL : AgV → Option Nat
  | .lp p => some p.1
  | .ls i => some i
  | _ => none
@[simp] def rootsOk (avs : List AgV) : Bool := decide (avs.filterMap rootO).Nodup && (avs.filterMap rootL).all fun r => !(avs.filterMap rootO).contains r
@[simp] def kPre (qs : List Nat) : List Nat → Bool := fun q => q.isPrefixOf qs
@[simp] def upd1 (i : Nat) (qs : List Nat) (t' : Tr) (ρ : Rho) : Rho := match (ρ[i]? : Option Sl) with
  | some (.tr t) => killB (kPre qs) i (ρ.set i (.tr (t.put qs t')))
  | some (.ow _) => (match t' with
    | .ow es => ρ.set i (.ow es)
    | _ => ρ.set i .un)
  | _ => ρ
@[simp] def apU : List AgV → List Ar → Rho → Rho
  | .op p :: as, .o t :: os, ρ => apU as os (upd1 p.1 p.2 t ρ)
  | .os i :: as, .o t :: os, ρ => apU as os (upd1 i [] t ρ)
  | _ :: as, _ :: os, ρ => apU as os ρ
  | _, _, ρ => ρ
@[simp] def callTM (F : List Ar → OT) (avs : List AgV) : M Rt := fun ρ => match arsOf avs ρ with
  | some as => if rootsOk avs = true then (match F as with
    | .ok r os => .ok (r, apU avs os ρ)
    | .exc c os => .exc c (apU avs os ρ)
    | .bad => .bad) else .bad
  | none => .bad
@[simp] def fCallT (F : List Ar → OT) (As : List Ag) : M Rt := fun ρ => (bnd (goT As) (callTM F)) ρ
section
variable {ρ : Rho}
theorem arsOf_len : ∀ {avs : List AgV} {as : List Ar}, arsOf avs ρ = some as → as.length = avs.length
  | [], as, h => by cases h; rfl
  | a :: avs, as, h => by
    unfold arsOf at h
    cases e : arOf a ρ with
    | none => rw [e] at h; cases h
    | some x =>
      rw [e] at h
      dsimp only at h
      cases e2 : arsOf avs ρ with
      | none => rw [e2] at h; cases h
      | some bs => rw [e2] at h; cases h; simp [arsOf_len e2]
theorem arsOf_get : ∀ {avs : List AgV} {as : List Ar}, arsOf avs ρ = some as → ∀ (i : Nat) (a : AgV), avs[i]? = some a → ∃ x, as[i]? = some x ∧ arOf a ρ = some x
  | [], as, h, i, a, ha => by simp at ha
  | a0 :: avs, as, h, i, a, ha => by
    unfold arsOf at h
    cases e : arOf a0 ρ with
    | none => rw [e] at h; cases h
    | some x =>
      rw [e] at h
      dsimp only at h
      cases e2 : arsOf avs ρ with
      | none => rw [e2] at h; cases h
      | some bs =>
        rw [e2] at h; cases h
        cases i with
        | zero => simp only [List.getElem?_cons_zero, Option.some.injEq] at ha; subst ha; exact ⟨x, rfl, e⟩
        | succ i => simp only [List.getElem?_cons_succ] at ha; simpa using arsOf_get e2 i a ha
theorem fm_nodup {avs : List AgV} : (avs.filterMap rootO).Nodup → ∀ (i j : Nat) (a b : AgV) (r : Nat), avs[i]? = some a → avs[j]? = some b → rootO a = some r → rootO b = some r → i = j := by
  induction avs with
  | nil => intro _ i j a b r h; simp at h
  | cons c avs ih =>
    intro hn i j a b r h1 h2 r1 r2
    have mem : ∀ (k : Nat) (x : AgV), avs[k]? = some x → rootO x = some r → r ∈ avs.filterMap rootO := fun k x hk hx => List.mem_filterMap.mpr ⟨x, List.mem_of_getElem? hk, hx⟩
    have hn2 : (avs.filterMap rootO).Nodup := by
      cases hc : rootO c with
      | none => rw [List.filterMap_cons_none hc] at hn; exact hn
      | some x => rw [List.filterMap_cons_some hc] at hn; exact (List.nodup_cons.mp hn).2
    have hc : ∀ x, rootO c = some x → x ∉ avs.filterMap rootO := fun x hx => by
      rw [List.filterMap_cons_some hx] at hn; exact (List.nodup_cons.mp hn).1
    cases i with
    | zero =>
      simp only [List.getElem?_cons_zero, Option.some.injEq] at h1
      subst h1
      cases j with
      | zero => rfl
      | succ j => exact absurd (mem j b (by simpa using h2) r2) (hc r r1)
    | succ i =>
      cases j with
      | zero =>
        simp only [List.getElem?_cons_zero, Option.some.injEq] at h2
        subst h2
        exact absurd (mem i a (by simpa using h1) r1) (hc r r2)
      | succ j => rw [ih hn2 i j a b r (by simpa using h1) (by simpa using h2) r1 r2]
theorem upd1_len {i : Nat} {qs : List Nat} {t' : Tr} : (upd1 i qs t' ρ).length = ρ.length := by
  unfold upd1
  split
  · rw [killB_len, List.length_set]
  · split <;> rw [List.length_set]
  · rfl
theorem upd1_other {i j : Nat} {qs : List Nat} {t' : Tr} {s : Sl} (hj : j ≠ i) (h : (upd1 i qs t' ρ)[j]? = some s) : ρ[j]? = some s ∨ s = .un := by
  unfold upd1 at h
  split at h
  · rcases killB_get h with ⟨h, _⟩ | ⟨h, _⟩
    · rw [List.getElem?_set, if_neg fun z => hj z.symm] at h; exact .inl h
    · exact .inr h
  · split at h <;> (rw [List.getElem?_set, if_neg fun z => hj z.symm] at h; exact .inl h)
  · exact .inl h
theorem upd1_keep {i j : Nat} {qs : List Nat} {t' : Tr} {s : Sl} (hj : j ≠ i) (h : ρ[j]? = some s) (hs : ∀ k q, s ≠ .pa k q) : (upd1 i qs t' ρ)[j]? = some s := by
  unfold upd1
  split
  · exact killB_at (by rw [List.getElem?_set, if_neg fun z => hj z.symm]; exact h) hs
  · split <;> (rw [List.getElem?_set, if_neg fun z => hj z.symm]; exact h)
  · exact h
theorem upd1_pa {i j k : Nat} {qs q : List Nat} {t' : Tr} (h : (upd1 i qs t' ρ)[j]? = some (.pa k q)) : ρ[j]? = some (.pa k q) ∧ (k = i → (∃ t, ρ[i]? = some (.tr t)) → kPre qs q = true) := by
  unfold upd1 at h
  split at h
  · rename_i t0 e0
    rcases killB_get h with ⟨h, hk⟩ | ⟨h, _⟩
    · rw [List.getElem?_set] at h
      split at h
      · split at h <;> cases h
      · exact ⟨h, fun z _ => hk _ _ rfl z⟩
    · cases h
  · rename_i ds e0
    split at h <;> (rw [List.getElem?_set] at h; split at h; split at h <;> cases h; exact ⟨h, fun z ⟨t, e⟩ => by rw [e] at e0; cases e0⟩)
  · rename_i n1 n2
    exact ⟨h, fun z ⟨t, e⟩ => absurd e (n1 t)⟩
theorem apU_len : ∀ {avs : List AgV} {os : List Ar} {ρ : Rho}, (apU avs os ρ).length = ρ.length
  | [], _, _ => rfl
  | _ :: _, [], _ => by rename_i a _ _; cases a <;> rfl
  | a :: avs, o :: os, ρ => by
    cases a <;> cases o <;> simp only [apU] <;> first | exact apU_len | (rw [apU_len]; exact upd1_len)
theorem apU_other {j : Nat} {s : Sl} : ∀ {avs : List AgV} {os : List Ar} {ρ : Rho}, j ∉ avs.filterMap rootO → (apU avs os ρ)[j]? = some s → ρ[j]? = some s ∨ s = .un
  | [], _, _, _, h => .inl h
  | a :: _, [], _, _, h => .inl (by cases a <;> exact h)
  | a :: avs, o :: os, ρ, hj, h => by
    have h2 : j ∉ avs.filterMap rootO := fun z => hj (by
      cases hc : rootO a with
      | none => rw [List.filterMap_cons_none hc]; exact z
      | some x => rw [List.filterMap_cons_some hc]; exact List.mem_cons_of_mem _ z)
    have h3 : ∀ x, rootO a = some x → j ≠ x := fun x hx e => hj (by rw [List.filterMap_cons_some hx, e]; exact List.mem_cons_self)
    cases a <;> cases o <;> simp only [apU] at h <;> first | exact apU_other h2 h | skip
    · rcases apU_other h2 h with h | h
      · exact upd1_other (h3 _ rfl) h
      · exact .inr h
    · rcases apU_other h2 h with h | h
      · exact upd1_other (h3 _ rfl) h
      · exact .inr h
theorem apU_pa {j k : Nat} {q : List Nat} : ∀ {avs : List AgV} {os : List Ar} {ρ : Rho}, (apU avs os ρ)[j]? = some (.pa k q) → ρ[j]? = some (.pa k q)
  | [], _, _, h => h
  | a :: _, [], _, h => by cases a <;> exact h
  | a :: avs, o :: os, ρ, h => by
    cases a <;> cases o <;> simp only [apU] at h <;> first | exact apU_pa h | exact (upd1_pa (apU_pa h)).1
def qsOf : AgV → List Nat
  | .op p => p.2
  | _ => []
theorem apU_at {r : Nat} : ∀ {avs : List AgV} {os : List Ar} {ρ : Rho} {i : Nat} {a : AgV} {t' : Tr} {s : Sl}, (avs.filterMap rootO).Nodup → avs[i]? = some a → rootO a = some r → os[i]? = some (.o t') → ρ[r]? = some s → (∀ k q, s ≠ .pa k q) →
    ∃ ρ0, ρ0[r]? = some s ∧ (apU avs os ρ)[r]? = (upd1 r (qsOf a) t' ρ0)[r]? ∧ ∀ (j : Nat) (q : List Nat), (apU avs os ρ)[j]? = some (.pa r q) → ρ[j]? = some (.pa r q) ∧ ((∃ t, s = .tr t) → kPre (qsOf a) q = true)
  | a0 :: avs, o :: os, ρ, i, a, t', s, hn, ha, hr, ho, hs, hp => by
    have hn2 : (avs.filterMap rootO).Nodup := by
      cases hc : rootO a0 with
      | none => rw [List.filterMap_cons_none hc] at hn; exact hn
      | some x => rw [List.filterMap_cons_some hc] at hn; exact (List.nodup_cons.mp hn).2
    cases i with
    | zero =>
      simp only [List.getElem?_cons_zero, Option.some.injEq] at ha ho
      subst ha ho
      have hr2 : r ∉ avs.filterMap rootO := by rw [List.filterMap_cons_some hr] at hn; exact (List.nodup_cons.mp hn).1
      have fin : ∀ (qs : List Nat), ∃ ρ0, ρ0[r]? = some s ∧ (apU avs os (upd1 r qs t' ρ))[r]? = (upd1 r qs t' ρ0)[r]? ∧ ∀ (j : Nat) (q : List Nat), (apU avs os (upd1 r qs t' ρ))[j]? = some (.pa r q) → ρ[j]? = some (.pa r q) ∧ ((∃ t, s = .tr t) → kPre qs q = true) := fun qs => by
        refine ⟨ρ, hs, ?_, fun j q h => ?_⟩
        · have keepr : ∀ {avs : List AgV} {os : List Ar} {ρ : Rho} {s : Sl}, r ∉ avs.filterMap rootO → ρ[r]? = some s → (∀ k q, s ≠ .pa k q) → (apU avs os ρ)[r]? = some s := by
            intro avs
            induction avs with
            | nil => intro os ρ s _ h _; exact h
            | cons a avs ih =>
              intro os ρ s hj h hp
              have h2 : r ∉ avs.filterMap rootO := fun z => hj (by
                cases hc : rootO a with
                | none => rw [List.filterMap_cons_none hc]; exact z
                | some x => rw [List.filterMap_cons_some hc]; exact List.mem_cons_of_mem _ z)
              have h3 : ∀ x, rootO a = some x → r ≠ x := fun x hx e => hj (by rw [List.filterMap_cons_some hx, e]; exact List.mem_cons_self)
              cases os with
              | nil => cases a <;> exact h
              | cons o os => cases a <;> cases o <;> simp only [apU] <;> first | exact ih h2 h hp | exact ih h2 (upd1_keep (h3 _ rfl) h hp) hp
          have hlt : r < ρ.length := (List.getElem?_eq_some_iff.mp hs).1
          obtain ⟨s', hs'⟩ : ∃ s', (upd1 r qs t' ρ)[r]? = some s' := ⟨_, List.getElem?_eq_getElem (by rw [upd1_len]; exact hlt)⟩
          rw [hs']
          refine keepr hr2 hs' fun k q z => ?_
          subst z
          have := (upd1_pa hs').1
          rw [hs] at this
          cases this
          exact hp _ _ rfl
        · have h1 := upd1_pa (apU_pa h)
          exact ⟨h1.1, fun ⟨t, e⟩ => h1.2 rfl ⟨t, by rw [hs, e]⟩⟩
      cases a0 with
      | op p => cases hr; exact fin p.2
      | os k => cases hr; exact fin []
      | e _ => cases hr
      | ld _ => cases hr
      | lp _ => cases hr
      | ls _ => cases hr
    | succ i =>
      simp only [List.getElem?_cons_succ] at ha ho
      have ne : ∀ x, rootO a0 = some x → r ≠ x := fun x hx e => by
        subst e
        rw [List.filterMap_cons_some hx] at hn
        exact (List.nodup_cons.mp hn).1 (List.mem_filterMap.mpr ⟨a, List.mem_of_getElem? ha, hr⟩)
      cases a0 <;> cases o <;> simp only [apU] <;> first | exact apU_at hn2 ha hr ho hs hp | skip
      · obtain ⟨ρ0, g1, g2, g3⟩ := apU_at (ρ := upd1 _ _ _ ρ) hn2 ha hr ho (upd1_keep (ne _ rfl) hs hp) hp
        exact ⟨ρ0, g1, g2, fun j q h => ⟨(upd1_pa (g3 j q h).1).1, (g3 j q h).2⟩⟩
      · obtain ⟨ρ0, g1, g2, g3⟩ := apU_at (ρ := upd1 _ _ _ ρ) hn2 ha hr ho (upd1_keep (ne _ rfl) hs hp) hp
        exact ⟨ρ0, g1, g2, fun j q h => ⟨(upd1_pa (g3 j q h).1).1, (g3 j q h).2⟩⟩
  | [], _, _, _, _, _, _, _, ha, _, _, _, _ => by simp at ha
  | _ :: _, [], _, _, _, _, _, _, _, _, ho, _, _ => by simp at ho
end
end Fx
namespace Fx
open PySem L2
variable [Tabz]
section
variable {X : Cx} {G Ga : Gx} {σ : St} {ρ ρ' : Rho} {Hf H Hf' H' : Hp} {Q : VK} {vs : List V} {avs : List AgV} {as os : List Ar} {Fs Gs : Nat → List Addr}
theorem nodup_parts {α : Type} {L M R : List α} (h : (L ++ (M ++ R)).Nodup) : M.Nodup ∧ (∀ a, a ∈ L ∨ a ∈ R → a ∉ M) ∧ L.Nodup ∧ R.Nodup ∧ ∀ a ∈ L, a ∉ R := by
  rw [List.nodup_append] at h
  obtain ⟨h1, h2, h3⟩ := h
  rw [List.nodup_append] at h2
  obtain ⟨h4, h5, h6⟩ := h2
  refine ⟨h4, fun a z m => z.elim (fun y => h3 a y a (List.mem_append_left _ m) rfl) fun y => h6 a m a y rfl, h1, h5, fun a y z => h3 a y a (List.mem_append_right _ z) rfl⟩
theorem At.put : ∀ {q qs : List Nat} {u w w2 : V} {t s s2 t' : Tr} {F M : List Addr}, q.isPrefixOf qs = true → At H u t q w s → TR Hf H u t F → F.Nodup → At H u t qs w2 s2 → TR Hf H w2 s2 M → (∀ a ∈ F, a ∉ M → H' a = H a) → ∃ s1, At H' u (t.put qs t') q w s1
  | [], qs, u, w, w2, t, s, s2, t', F, M, _, h, _, _, _, _, _ => by cases h; exact ⟨_, .nil⟩
  | n :: q, [], _, _, _, _, _, _, _, _, _, hp, _, _, _, _, _, _ => by simp [List.isPrefixOf] at hp
  | n :: q, m :: qs, u, w, w2, t, s, s2, t', F, M, hp, h, r, nd, h2, r2, hk => by
    simp only [List.isPrefixOf, Bool.and_eq_true, beq_iff_eq] at hp
    obtain ⟨rfl, hp⟩ := hp
    cases h with
    | @cons p k vs ts _ v _ t1 _ _ a b c d =>
      cases h2 with
      | cons a2 b2 c2 d2 =>
        have ev := a.inj a2
        subst ev
        rw [b] at b2; cases b2
        rw [c] at c2; cases c2
        cases r with
        | nd a3 r3 =>
          have ev := a.inj a3
          subst ev
          obtain ⟨L, M1, R, eF, r1⟩ := TRs.get r3 b c
          obtain ⟨M', z, hM⟩ := r1.atv d2
          have eM := r2.inj z
          subst eM
          obtain ⟨ndp, ndk⟩ := List.nodup_cons.mp nd
          have hp' : H' p = H p := hk p List.mem_cons_self fun y => ndp (by rw [eF]; exact List.mem_append_right _ (List.mem_append_left _ (hM p y)))
          rw [eF] at ndk
          obtain ⟨s1, z1⟩ := At.put (t' := t') hp d r1 (nodup_parts ndk).1 d2 r2 (fun x y z => hk x (List.mem_cons_of_mem _ (by rw [eF]; exact List.mem_append_right _ (List.mem_append_left _ y))) z)
          refine ⟨s1, ?_⟩
          simp only [Tr.put, c]
          exact .cons (a.of hp') b (by rw [List.getElem?_set, if_pos rfl, if_pos (List.getElem?_eq_some_iff.mp c).1]) z1
theorem io_slot (rp : Rp Hf H σ ρ) {v : V} {a : AgV} {t t' : Tr} {r : Nat} {F K : List Addr} (ra : agR σ ρ Hf H v a) (e : arOf a ρ = some (.o t)) (hr : rootO a = some r) (aF : ArOk Hf H v (.o t) F) (sub : Same Hf Hf') (kp : ∀ b, OwnI H σ ρ r b → b ∉ F → H' b = H b ∧ Hf' b = none)
    (rG : TR Hf' H' v t' K) (nG : K.Nodup) (fG : ∀ b ∈ K, Hf' b = none) (dj : ∀ b ∈ K, OwnI H σ ρ r b → b ∈ F) :
    ∃ s u, ρ[r]? = some s ∧ (∀ k q, s ≠ .pa k q) ∧ σ[r]? = some (some u) ∧ ∀ ρ0 : Rho, ρ0[r]? = some s → ∃ s', (upd1 r (qsOf a) t' ρ0)[r]? = some s' ∧ ((∀ x, s' ≠ .lk x) ∧ ∀ k q, s' ≠ .pa k q) ∧ SlOk Hf' H' (some (some u)) s' ∧ (∀ b, OwnS H' u s' b → b ∈ K ∨ (OwnI H σ ρ r b ∧ b ∉ F)) ∧
      ∀ t1, s' = .tr t1 → ∃ t0, s = .tr t0 ∧ ∀ q w s0, kPre (qsOf a) q = true → At H u t0 q w s0 → ∃ s1, At H' u t1 q w s1 := by
  have tree : ∀ {t0 : Tr} {u : V} {F0 : List Addr} {qs : List Nat}, ρ[r]? = some (.tr t0) → σ[r]? = some (some u) → TR Hf H u t0 F0 → F0.Nodup → At H u t0 qs v t → ∀ ρ0 : Rho, ρ0[r]? = some (.tr t0) → ∃ s', (upd1 r qs t' ρ0)[r]? = some s' ∧ ((∀ x, s' ≠ .lk x) ∧ ∀ k q, s' ≠ .pa k q) ∧ SlOk Hf' H' (some (some u)) s' ∧ (∀ b, OwnS H' u s' b → b ∈ K ∨ (OwnI H σ ρ r b ∧ b ∉ F)) ∧
      ∀ t1, s' = .tr t1 → ∃ t0', Sl.tr t0 = .tr t0' ∧ ∀ q w s0, kPre qs q = true → At H u t0' q w s0 → ∃ s1, At H' u t1 q w s1 := by
    intro t0 u F0 qs g2 g1 r0 nd g3 ρ0 h0
    obtain ⟨w, L, M, R, h1, h2, h3, h4⟩ := r0.focus (s' := t') g3.at
    obtain ⟨ew, _⟩ := g3.inj h1
    subst ew
    have eF := h3.inj aF.1
    subst eF
    have own : ∀ b, b ∈ L ∨ b ∈ R → OwnI H σ ρ r b := fun b z => (ownI_tr g2 g1 r0).mpr (by
      rw [h2]
      rcases z with z | z
      · exact List.mem_append_left _ z
      · exact List.mem_append_right _ (List.mem_append_right _ z))
    have nd' := nd
    rw [h2] at nd'
    obtain ⟨n1, n2, n3, n4, n5⟩ := nodup_parts nd'
    have r1 := h4 sub (fun b z => (kp b (own b z) (n2 b z)).1) rG
    have hlt : r < ρ0.length := (List.getElem?_eq_some_iff.mp h0).1
    have hat : (upd1 r qs t' ρ0)[r]? = some (.tr (t0.put qs t')) := by
      unfold upd1
      rw [h0]
      exact killB_at (by rw [List.getElem?_set, if_pos rfl, if_pos hlt]) fun _ _ z => nomatch z
    refine ⟨_, hat, ⟨(fun _ z => nomatch z), (fun _ _ z => nomatch z)⟩, slok_tr.mpr ⟨_, r1, ?_, fun b m => ?_⟩, fun b z => ?_, fun t1 et => ?_⟩
    · rw [List.nodup_append, List.nodup_append]
      refine ⟨n3, ⟨nG, n4, fun b m c mc ebc => ?_⟩, fun b m c mc ebc => ?_⟩
      · subst ebc
        exact n2 b (.inr mc) (dj b m (own b (.inr mc)))
      · subst ebc
        rcases List.mem_append.mp mc with y | y
        · exact n2 b (.inl m) (dj b y (own b (.inl m)))
        · exact n5 b m y
    · rcases List.mem_append.mp m with y | y
      · exact (kp b (own b (.inl y)) (n2 b (.inl y))).2
      · rcases List.mem_append.mp y with y | y
        · exact fG b y
        · exact (kp b (own b (.inr y)) (n2 b (.inr y))).2
    · obtain ⟨Hf0, F1, r2, m⟩ := z
      have ee := r1.inj r2
      subst ee
      rcases List.mem_append.mp m with y | y
      · exact .inr ⟨own b (.inl y), n2 b (.inl y)⟩
      · rcases List.mem_append.mp y with y | y
        · exact .inl y
        · exact .inr ⟨own b (.inr y), n2 b (.inr y)⟩
    · cases et
      refine ⟨t0, rfl, fun q w s0 hk ha => ?_⟩
      exact At.put hk ha r0 nd g3 h3 fun b m nm => (kp b ((ownI_tr g2 g1 r0).mpr m) nm).1
  cases a with
  | e d => cases hr
  | ld d => cases hr
  | lp d => cases hr
  | ls d => cases hr
  | op p =>
    cases hr
    simp only [arOf] at e
    split at e
    · rename_i t0 g2
      cases e1 : t0.at p.2 with
      | none => rw [e1] at e; cases e
      | some t1 =>
        rw [e1] at e; cases e
        obtain ⟨s', u, t1, g1, g2', g3⟩ := ra
        have et : t1 = t0 := by
          rcases g2' with y | y
          · rw [g2] at y; cases y; rfl
          · rw [g2] at y; cases y
        subst et
        have es := g3.at
        rw [e1] at es; cases es
        obtain ⟨u', F0, e2, r0, nd, hf⟩ := slok_tr' (rp.sl _ _ g2)
        rw [g1] at e2; cases e2
        exact ⟨_, u, g2, (fun _ _ z => nomatch z), g1, tree g2 g1 r0 nd g3⟩
    · cases e
  | os i =>
    have ek : i = r := by simpa using hr
    subst ek
    simp only [arOf] at e
    cases e1 : osA i ρ with
    | none => rw [e1] at e; cases e
    | some t1 =>
      rw [e1] at e; cases e
      have ra' : σ[i]? = some (some v) := ra
      unfold osA at e1
      split at e1
      · rename_i t0 g2; cases e1
        obtain ⟨u', F0, e2, r0, nd, hf⟩ := slok_tr' (rp.sl _ _ g2)
        rw [ra'] at e2; cases e2
        exact ⟨_, v, g2, (fun _ _ z => nomatch z), ra', tree g2 ra' r0 nd .nil⟩
      · rename_i ds g2; cases e1
        refine ⟨_, v, g2, (fun _ _ z => nomatch z), ra', fun ρ0 h0 => ?_⟩
        have hlt : i < ρ0.length := (List.getElem?_eq_some_iff.mp h0).1
        unfold upd1
        rw [h0]
        dsimp only
        have un : ∃ s', (ρ0.set i .un)[i]? = some s' ∧ ((∀ x, s' ≠ .lk x) ∧ ∀ k q, s' ≠ .pa k q) ∧ SlOk Hf' H' (some (some v)) s' ∧ (∀ b, OwnS H' v s' b → b ∈ K ∨ (OwnI H σ ρ i b ∧ b ∉ F)) ∧ ∀ t1, s' = .tr t1 → ∃ t0, Sl.ow ds = .tr t0 ∧ ∀ q w s0, kPre (qsOf (.os i)) q = true → At H v t0 q w s0 → ∃ s1, At H' v t1 q w s1 :=
          ⟨.un, by rw [List.getElem?_set, if_pos rfl, if_pos hlt], ⟨(fun _ z => nomatch z), (fun _ _ z => nomatch z)⟩, slok_un, fun b z => z.elim, fun t1 z => nomatch z⟩
        cases rG with
        | @ow p2 vs2 es h1 h2 =>
          refine ⟨.ow es, by rw [List.getElem?_set, if_pos rfl, if_pos hlt], ⟨(fun _ z => nomatch z), (fun _ _ z => nomatch z)⟩, ⟨fG _ (List.mem_singleton.mpr rfl), _, h1, h2⟩, fun b z => .inl ?_, fun t1 z => nomatch z⟩
          cases (show V.ref _ = .ref b from z)
          exact List.mem_singleton.mpr rfl
        | fz _ => exact un
        | dk _ _ _ => exact un
        | dt _ _ _ => exact un
        | nd _ _ => exact un
      · cases e1
theorem agAll_get : ∀ {vs : List V} {avs : List AgV}, AgAll σ ρ Hf H vs avs → vs.length = avs.length ∧ ∀ (i : Nat) (a : AgV), avs[i]? = some a → ∃ v, vs[i]? = some v ∧ agR σ ρ Hf H v a
  | _, _, .nil => ⟨rfl, fun i a h => by simp at h⟩
  | _, _, .cons (v := v) h t => by
    obtain ⟨h1, h2⟩ := agAll_get t
    refine ⟨by simp [h1], fun i a ha => ?_⟩
    cases i with
    | zero => simp only [List.getElem?_cons_zero, Option.some.injEq] at ha; subst ha; exact ⟨v, rfl, h⟩
    | succ i => simpa using h2 i a (by simpa using ha)
theorem back (rp : Rp Hf H σ ρ) (ag : AgAll σ ρ Hf H vs avs) (ea : arsOf avs ρ = some as) (ro : rootsOk avs = true) (ak : ArsOk Hf H vs as Fs) (oo : ∀ (i : Nat) (t : Tr), as[i]? = some (.o t) → ∃ a r, avs[i]? = some a ∧ rootO a = some r ∧ ∀ b ∈ Fs i, OwnI H σ ρ r b) (en : EndT Hf H vs as Fs Hf' H' os Gs) :
    Nxt false σ ρ Hf H σ (apU avs os ρ) Hf' H' ∧ (∀ b, IoA as Fs b → OwnA H σ ρ b) ∧ ∀ b, OwnA H' σ (apU avs os ρ) b → IoA os Gs b ∨ (OwnA H σ ρ b ∧ ¬ IoA as Fs b) := by
  have ro0 := ro
  simp only [rootsOk, Bool.and_eq_true, decide_eq_true_eq, List.all_eq_true, Bool.not_eq_true'] at ro
  obtain ⟨ro1, _⟩ := ro
  obtain ⟨hl, hg⟩ := agAll_get ag
  have hla := arsOf_len ea
  have ioo : ∀ b, IoA as Fs b → ∃ r, r ∈ avs.filterMap rootO ∧ OwnI H σ ρ r b := fun b ⟨i, t, h, m⟩ => by
    obtain ⟨a, r, h1, h2, h3⟩ := oo i t h
    exact ⟨r, List.mem_filterMap.mpr ⟨a, List.mem_of_getElem? h1, h2⟩, h3 b m⟩
  -- each root
  have root : ∀ r, r ∈ avs.filterMap rootO → ∃ (i : Nat) (t' : Tr) (s : Sl) (u : V), (os[i]? = some (.o t') ∧ (∃ v, vs[i]? = some v) ∧ ∃ a, avs[i]? = some a ∧ rootO a = some r) ∧ ρ[r]? = some s ∧ (∀ k q, s ≠ .pa k q) ∧ σ[r]? = some (some u) ∧ ∃ s', (apU avs os ρ)[r]? = some s' ∧ ((∀ x, s' ≠ .lk x) ∧ ∀ k q, s' ≠ .pa k q) ∧ SlOk Hf' H' (some (some u)) s' ∧
      (∀ b, OwnS H' u s' b → b ∈ Gs i ∨ (OwnI H σ ρ r b ∧ ¬ IoA as Fs b)) ∧ ∀ t1, s' = .tr t1 → ∃ t0, s = .tr t0 ∧ ∀ (j : Nat) (q : List Nat) (w : V) (s0 : Tr), (apU avs os ρ)[j]? = some (.pa r q) → ρ[j]? = some (.pa r q) ∧ (At H u t0 q w s0 → ∃ s1, At H' u t1 q w s1) := fun r hr => by
    obtain ⟨a, ha, hra⟩ := List.mem_filterMap.mp hr
    obtain ⟨i, hi⟩ := List.getElem?_of_mem ha
    obtain ⟨v, hv, rag⟩ := hg i a hi
    obtain ⟨x, hx, ex⟩ := arsOf_get ea i a hi
    have hxo : ∃ t, x = .o t := by
      cases a with
      | op p =>
        simp only [arOf] at ex
        split at ex
        · rename_i t0 _
          cases e1 : t0.at p.2 with
          | none => rw [e1] at ex; cases ex
          | some t => rw [e1] at ex; cases ex; exact ⟨t, rfl⟩
        · cases ex
      | os k =>
        simp only [arOf] at ex
        cases e1 : osA k ρ with
        | none => rw [e1] at ex; cases ex
        | some t => rw [e1] at ex; cases ex; exact ⟨t, rfl⟩
      | e _ => cases hra
      | ld _ => cases hra
      | lp _ => cases hra
      | ls _ => cases hra
    obtain ⟨t, rfl⟩ := hxo
    obtain ⟨t', ho⟩ := en.shp i ⟨t, hx⟩
    obtain ⟨rG, nG, fG⟩ := en.out i v t' hv ho
    have aF := ak.ok i v _ hv hx
    have nio : ∀ b, OwnI H σ ρ r b → b ∉ Fs i → ¬ IoA as Fs b := fun b ob nb ⟨j, t2, h2, m2⟩ => by
      obtain ⟨a2, r2, g1, g2, g3⟩ := oo j t2 h2
      have er := rp.nd r r2 b ob (g3 b m2)
      subst er
      have eij := fm_nodup ro1 i j a a2 r hi g1 hra g2
      subst eij
      exact nb m2
    have kp : ∀ b, OwnI H σ ρ r b → b ∉ Fs i → H' b = H b ∧ Hf' b = none := fun b ob nb => by
      obtain ⟨h0, o, ho, no⟩ := rp.ownI ob
      refine ⟨by rw [ho]; exact en.keep b o ho no (nio b ob nb), (en.fr b h0).elim id fun z => z.elim (fun z => ?_) fun z => absurd z (nio b ob nb)⟩
      rw [ho] at z; cases z
    obtain ⟨s, u, g1, g2, g3, g4⟩ := io_slot rp rag ex hra aF en.sub kp rG nG (fun b m => (fG b m).1) (fun b m ob => by
      rcases (fG b m).2 with z | z
      · by_cases nb : b ∈ Fs i
        · exact nb
        · exact absurd z (nio b ob nb)
      · obtain ⟨_, o, ho, _⟩ := rp.ownI ob
        rw [ho] at z; cases z)
    obtain ⟨ρ0, k1, k2, k3⟩ := apU_at ro1 hi hra ho g1 g2
    obtain ⟨s', m1, m2, m3, m4, m5⟩ := g4 ρ0 k1
    refine ⟨i, t', s, u, ⟨ho, ⟨v, hv⟩, a, hi, hra⟩, g1, g2, g3, s', by rw [k2]; exact m1, m2, m3, fun b z => (m4 b z).imp id fun y => ⟨y.1, nio b y.1 y.2⟩, fun t1 e1 => ?_⟩
    obtain ⟨t0, n1, n2⟩ := m5 t1 e1
    exact ⟨t0, n1, fun j q w s0 hj => ⟨(k3 j q hj).1, n2 q w s0 ((k3 j q hj).2 ⟨t0, n1⟩)⟩⟩
  have rown : ∀ r, r ∈ avs.filterMap rootO → ∀ b, OwnI H' σ (apU avs os ρ) r b → ∃ (i : Nat) (t' : Tr), (os[i]? = some (.o t') ∧ (∃ v, vs[i]? = some v) ∧ ∃ a, avs[i]? = some a ∧ rootO a = some r) ∧ (b ∈ Gs i ∨ (OwnI H σ ρ r b ∧ ¬ IoA as Fs b)) := fun r hr b ⟨s2, u2, e1, e2, o2⟩ => by
    obtain ⟨i, t', s, u, ho, g1, g2, g3, s', m1, m2, m3, m4, m5⟩ := root r hr
    rw [m1] at e1; cases e1
    rw [g3] at e2; cases e2
    exact ⟨i, t', ho, m4 b o2⟩
  have nx : Nxt false σ ρ Hf H σ (apU avs os ρ) Hf' H' := by
    refine rp.chgs (· ∈ avs.filterMap rootO) (by rw [apU_len]; exact rp.len) en.sub en.sb.sm en.sb.tb en.sb.nt (fun a o h t z => en.keep a o h t fun y => ?_) en.dom (fun a z => (en.fr a z).imp id fun y => y.imp id (ioo a)) (fun j s hj e => apU_other hj e) ?_ ?_ ?_ ?_ ?_ (fun z => nomatch z)
    · obtain ⟨r, h1, h2⟩ := ioo a y
      exact z r h1 h2
    · intro r s2 hr e1
      obtain ⟨i, t', s, u, ho, g1, g2, g3, s', m1, m2, m3, m4, m5⟩ := root r hr
      rw [m1] at e1; cases e1
      exact m2
    · intro j r q t h1 h2 hr
      obtain ⟨i, t', s, u, ho, g1, g2, g3, s', m1, m2, m3, m4, m5⟩ := root r hr
      have es : s' = .tr t := by
        rcases h2 with e | e
        · rw [m1] at e; cases e; rfl
        · rw [m1] at e; cases e; exact absurd rfl (m2.1 t)
      obtain ⟨t0, n1, n2⟩ := m5 t es
      obtain ⟨v, w, s0, p1, p2, p3⟩ := rp.al j r q t0 (apU_pa h1) (.inl (by rw [g1, n1]))
      rw [g3] at p1; cases p1
      obtain ⟨s1, p4⟩ := (n2 j q w s0 h1).2 p3
      exact ⟨u, w, s1, g3, p2, p4⟩
    · intro r s2 hr e1
      obtain ⟨i, t', s, u, ho, g1, g2, g3, s', m1, m2, m3, m4, m5⟩ := root r hr
      rw [m1] at e1; cases e1
      rw [g3]; exact m3
    · intro r b hr z
      obtain ⟨i, t', ⟨ho, ⟨v, hv⟩, _⟩, h⟩ := rown r hr b z
      rcases h with h | ⟨h, _⟩
      · exact ((en.out i v t' hv ho).2.2 b h).2.imp (ioo b) id
      · exact .inl ⟨r, hr, h⟩
    · intro r1 r2 b hr1 hr2 z1 z2
      obtain ⟨i1, t1, ⟨ho1, ⟨v1, hv1⟩, a1, ha1, hra1⟩, h1⟩ := rown r1 hr1 b z1
      obtain ⟨i2, t2, ⟨ho2, ⟨v2, hv2⟩, a2, ha2, hra2⟩, h2⟩ := rown r2 hr2 b z2
      have no : ∀ {i : Nat} {t : Tr} {v : V} {r : Nat}, vs[i]? = some v → os[i]? = some (.o t) → b ∈ Gs i → OwnI H σ ρ r b → IoA as Fs b := fun hv ho m ob => by
        rcases ((en.out _ _ _ hv ho).2.2 b m).2 with y | y
        · exact y
        · obtain ⟨_, o, ho, _⟩ := rp.ownI ob
          rw [ho] at y; cases y
      rcases h1 with h1 | ⟨h1, k1⟩
      · rcases h2 with h2 | ⟨h2, k2⟩
        · have ei := en.nd i1 i2 b t1 t2 ho1 ho2 h1 h2
          subst ei
          rw [ha1] at ha2; cases ha2
          rw [hra1] at hra2; cases hra2
          rfl
        · exact absurd (no hv1 ho1 h1 h2) k2
      · rcases h2 with h2 | ⟨h2, k2⟩
        · exact absurd (no hv2 ho2 h2 h1) k1
        · exact rp.nd r1 r2 b h1 h2
  refine ⟨nx, fun b z => (ioo b z).elim fun r h => ⟨r, h.2⟩, fun b ⟨r, z⟩ => ?_⟩
  by_cases hr : r ∈ avs.filterMap rootO
  · obtain ⟨i, t', ⟨ho, _⟩, h⟩ := rown r hr b z
    exact h.imp (fun m => ⟨i, t', ho, m⟩) fun y => ⟨⟨r, y.1⟩, y.2⟩
  · obtain ⟨s, v, e1, e2, o⟩ := z
    rcases apU_other hr e1 with e | e
    · have nio : ∀ c, OwnI H σ ρ r c → ¬ IoA as Fs c := fun c oc y => by
        obtain ⟨r2, h1, h2⟩ := ioo c y
        exact hr (rp.nd r2 r c h2 oc ▸ h1)
      have ob : OwnI H σ ρ r b := (rp.ownI_iff (fun c y => by
        obtain ⟨_, o, ho, no⟩ := rp.ownI y
        rw [ho]; exact en.keep c o ho no (nio c y)) b).mp ⟨s, v, e, e2, o⟩
      exact .inr ⟨⟨r, ob⟩, nio b ob⟩
    · subst e; exact o.elim
end
end Fx
namespace Fx
open PySem L2
variable [Tabz]
section
variable {X : Cx} {G Ga : Gx} {e a b : Expr} {es : List Expr} {pos p : Pos} {pn : List Nat} {σ : St} {ρ ρ1 ρ2 : Rho} {Hf H Hf1 H1 Hf2 H2 Hf' H' : Hp} {Q : VK} {As : List Ag} {A : Ag} {vs : List V} {avs : List AgV} {as os : List Ar} {Fs Gs : Nat → List Addr}
theorem AfR.fz {d : PyData} {v : V} {Hf' H' : Hp} (n : Nxt G.q σ ρ Hf H σ ρ1 Hf' H') (af : AfR G σ ρ Hf H Q (.ok (.fz d, ρ1))) (r : Rep Hf' v d) : Q v H' := af v Hf' H' n r
@[simp] def fR (f : M Rt) : M PyData := fun ρ => (bnd f fun r => opt (rtD r)) ρ
@[simp] def rtL : Rt → Option (List PyData)
  | .ow ds => some ds
  | _ => none
@[simp] def lR (f : M Rt) : M (List PyData) := fun ρ => (bnd f fun r => opt (rtL r)) ρ
@[simp] def rtT : Rt → Tr
  | .fz d => .fz d
  | .ow ds => .ow ds
  | .tr t => t
@[simp] def nR (f : M Rt) : M Tr := fun ρ => (bnd f fun r => ret (rtT r)) ρ
end
end Fx
namespace Fx
open PySem L2
variable [Tabz]
section
variable {X : Cx} {G Ga : Gx} {e a b o : Expr} {es : List Expr} {pos p apos : Pos} {pn : List Nat} {σ : St} {ρ ρ1 ρ2 : Rho} {Hf H Hf1 H1 Hf2 H2 Hf' H' : Hp} {Q : VK} {As : List Ag} {A : Ag} {vs : List V} {avs : List AgV} {as os : List Ar} {Fs Gs : Nat → List Addr}
@[simp] def isIns (c : Str) (a : AgV) (ρ : Rho) : Bool := match arOf a ρ with
  | some (.l (.nd (.ins c') _)) => decide (c' = c)
  | some (.o (.nd (.ins c') _)) => decide (c' = c)
  | _ => false
@[simp] def fMeth (c : Str) (F : List Ar → OT) (A : Ag) (As : List Ag) : M Rt := fun ρ => (bnd A.go fun a ρ => if isIns c a ρ = true then bnd (goT As) (fun as => callTM F (a :: as)) ρ else .bad) ρ
end
end Fx
namespace Fx
open PySem L2
section
variable {fa : List Fq} {fn : List He.FnD} {K : PySem.W.Frag} {mg : Str → Option Value} (T : Top fa fn K mg)
include T
theorem Top.cls (i : Nat) {c : Str} (h : fa[i]? = some (.f (.cls c)) := by rfl) : Cls K (He.ga K c) := He.cls_ok (T.fact i h)
end
variable [Tabz]
section
variable {X : Cx} {G Ga : Gx} {e a b o : Expr} {es : List Expr} {pos p apos : Pos} {pn : List Nat} {σ : St} {ρ ρ1 ρ2 : Rho} {Hf H Hf1 H1 Hf2 H2 Hf' H' : Hp} {Q : VK} {As : List Ag} {A : Ag}
@[simp] def nMk (c : Str) (F : List Ar → OT) (fs : M (List PyData)) : M Tr := fun ρ => (bnd fs fun ds ρ => match F (.o (.nd (.ins c) []) :: ds.map Ar.d) with
  | .ok (.fz .none) (.o t :: _) => .ok (t, ρ)
  | .exc x _ => .exc x ρ
  | _ => .bad) ρ
end
end Fx
namespace Fx
open PySem L2
variable [Tabz]
section
variable {q : Bool} {Hf Hf' H H' Hf0 H0 : Hp} {σ σ' : St} {ρ ρ' ρ0 : Rho}
@[simp] def setAp {α : Type} (l : List α) (n : Nat) (x : α) : List α := if n < l.length then l.set n x else l ++ [x]
end
section
variable {X : Cx} {G : Gx} {e a b : Expr} {es : List Expr} {f g : M D} {fs : M (List D)} {pos : Pos} {A B : Opd} {As : List Opd} {pn : List Nat} {σ : St} {ρ ρ1 : Rho} {Hf H Hf1 H1 : Hp}
@[simp] def sFldS (i : Nat) (c : Str) (n : Nat) (f : M Tr) : Rho → Fl := fun ρ => (sBnd f fun t ρ1 => match (ρ1[i]? : Option Sl) with
  | some (.tr (.nd (.ins c') ts)) => if c' = c ∧ n ≤ ts.length then .nx (killB (kPre []) i (ρ1.set i (.tr (.nd (.ins c) (setAp ts n t))))) else .bad
  | _ => .bad) ρ
end
end Fx
namespace Fx
open PySem L2
variable [Tabz]
section
variable {q : Bool} {Hf Hf' H H' : Hp} {σ σ' : St} {ρ ρ' : Rho}
theorem TRs.apart : ∀ {vs : List V} {ts : List Tr} {F : List Addr} {n m : Nat} {v w : V} {t s : Tr} {M N : List Addr}, TRs Hf H vs ts F → F.Nodup → n ≠ m → vs[n]? = some v → ts[n]? = some t → vs[m]? = some w → ts[m]? = some s → TR Hf H v t M → TR Hf H w s N → ∀ a ∈ M, a ∉ N
  | _, _, _, 0, 0, _, _, _, _, _, _, _, _, hn, _, _, _, _, _, _ => absurd rfl hn
  | _, _, _, 0, m + 1, v, w, t, s, M, N, .cons (F := A) (F' := B) h r, nd, _, e1, e2, e3, e4, z1, z2 => by
    simp only [List.getElem?_cons_zero, Option.some.injEq, List.getElem?_cons_succ] at e1 e2 e3 e4
    subst e1 e2
    have eA := h.inj z1
    subst eA
    obtain ⟨L, N', R, eB, z3⟩ := TRs.get r e3 e4
    have eN := z2.inj z3
    subst eN
    rw [List.nodup_append] at nd
    exact fun a m1 m2 => nd.2.2 a m1 a (by rw [eB]; exact List.mem_append_right _ (List.mem_append_left _ m2)) rfl
  | _, _, _, n + 1, 0, v, w, t, s, M, N, .cons (F := A) (F' := B) h r, nd, _, e1, e2, e3, e4, z1, z2 => by
    simp only [List.getElem?_cons_zero, Option.some.injEq, List.getElem?_cons_succ] at e1 e2 e3 e4
    subst e3 e4
    have eA := h.inj z2
    subst eA
    obtain ⟨L, N', R, eB, z3⟩ := TRs.get r e1 e2
    have eN := z1.inj z3
    subst eN
    rw [List.nodup_append] at nd
    exact fun a m1 m2 => nd.2.2 a m2 a (by rw [eB]; exact List.mem_append_right _ (List.mem_append_left _ m1)) rfl
  | _, _, _, n + 1, m + 1, v, w, t, s, M, N, .cons (F := A) (F' := B) h r, nd, hn, e1, e2, e3, e4, z1, z2 => by
    simp only [List.getElem?_cons_succ] at e1 e2 e3 e4
    rw [List.nodup_append] at nd
    exact TRs.apart r nd.2.1 (fun z => hn (by rw [z])) e1 e2 e3 e4 z1 z2
  | _, _, _, 0, _ + 1, _, _, _, _, _, _, .nil, _, _, e1, _, _, _, _, _ => by simp at e1
  | _, _, _, _ + 1, _, _, _, _, _, _, _, .nil, _, _, e1, _, _, _, _, _ => by simp at e1
@[simp] def owP (p : Pth) (ρ : Rho) : Option (List D) := match (ρ[p.1]? : Option Sl) with
  | some (.tr t) => (match t.at p.2 with
    | some (.ow ds) => some ds
    | _ => none)
  | _ => none
@[simp] def putP (p : Pth) (s : Tr) (ρ : Rho) : Rho := match (ρ[p.1]? : Option Sl) with
  | some (.tr t) => ρ.set p.1 (.tr (t.put p.2 s))
  | _ => ρ
end
section
variable {X : Cx} {G : Gx} {e a b o : Expr} {es : List Expr} {f g : M D} {fs : M (List D)} {pos : Pos} {A B : Opd} {As : List Opd} {pn : List Nat} {σ : St} {ρ ρ1 : Rho} {Hf H Hf1 H1 : Hp}
@[simp] def sMutP {α : Type} (f : M Pth) (g : M α) (k : α → List D → Option (List D)) : Rho → Fl := fun ρ => (sBnd f fun p ρ => if (owP p ρ).isSome = true then sBnd g (fun x ρ1 => match owP p ρ1 with
    | some ds => (match k x ds with
      | some es => .nx (putP p (.ow es) ρ1)
      | none => .bad)
    | none => .bad) ρ else .bad) ρ
@[simp] def fPopP (f : M Pth) : M D := fun ρ => (bnd f fun p ρ => match owP p ρ with
  | some ds => (match ds.getLast? with
    | some d => .ok (d, putP p (.ow ds.dropLast) ρ)
    | none => .bad)
  | none => .bad) ρ
@[simp] def lkP (p : Pth) (ρ : Rho) : Option (List D) := match (ρ[p.1]? : Option Sl) with
  | some (.lk t) => (match t.at p.2 with
    | some (.ow ds) => some ds
    | _ => none)
  | _ => none
@[simp] def fItP (f : M Pth) : M (List D) := fun ρ => (bnd f fun p ρ => match lkP p ρ with
  | some ds => .ok (ds, ρ)
  | none => .bad) ρ
variable {tg : Expr}
@[simp] def fItPE (f : M Pth) : M (List D) := fun ρ => (bnd f fun p ρ => match lkP p ρ with
  | some ds => .ok (enumD ds, ρ)
  | none => .bad) ρ
end
end Fx
namespace Fx
open PySem L2
variable [Tabz]
theorem u2s {k : Nat} {Z U : Around} (hr : Room k Z) (h : U.units = Z.units := by rfl) : U.units + 1 < cLine := by have := u64s hr h; omega
section
variable {κ : Type} [DecidableEq κ]
def lkK {α : Type} : List κ → List α → κ → Option α
  | k :: ks, d :: ds, x => if k = x then some d else lkK ks ds x
  | _, _, _ => none
def repK {α : Type} (ks : List κ) (ds : List α) (k : κ) (d : α) : List α := List.zipWith (fun k' d' => if k' = k then d else d') ks ds
def ptK {α : Type} (ks : List κ) (ds : List α) (k : κ) (d : α) : List κ × List α := if k ∈ ks then (ks, repK ks ds k d) else (ks ++ [k], ds ++ [d])
theorem valV_zip {k : κ} : ∀ {ks : List κ} {vs : List V}, valV (ks.zip vs) k = lkK ks vs k
  | [], vs => by simp [lkK, valV]
  | _ :: _, [] => by simp [lkK, valV]
  | c :: ks, v :: vs => by
    by_cases h : c = k
    · subst h; rw [List.zip_cons_cons, valV_pos rfl]; simp [lkK]
    · rw [List.zip_cons_cons, valV_neg (by simpa using h), valV_zip]; simp [lkK, h]
theorem lkK_rep {Hf : Hp} {k : κ} : ∀ {ks : List κ} {vs : List V} {ds : List D}, RepA Hf vs ds → (lkK ks vs k = none ∧ lkK ks ds k = none) ∨ ∃ v d, lkK ks vs k = some v ∧ lkK ks ds k = some d ∧ Rep Hf v d
  | [], _, _, _ => .inl ⟨by simp [lkK], by simp [lkK]⟩
  | _ :: _, _, _, .nil => .inl ⟨by simp [lkK], by simp [lkK]⟩
  | c :: ks, v :: vs, d :: ds, .cons h r => by
    by_cases e : c = k
    · exact .inr ⟨v, d, by simp [lkK, e], by simp [lkK, e], h⟩
    · rcases lkK_rep (ks := ks) (k := k) r with ⟨a, b⟩ | ⟨v', d', a, b, c'⟩
      · exact .inl ⟨by simp [lkK, e, a], by simp [lkK, e, b]⟩
      · exact .inr ⟨v', d', by simp [lkK, e, a], by simp [lkK, e, b], c'⟩
end
def keyT : PyData → Option (List Key)
  | .tuple ds => ds.mapM unkD
  | _ => none
section
variable {Hf H : Hp} {σ : St} {ρ : Rho}
theorem unkD_rep {v : V} {d : D} {k : Key} (r : Rep Hf v d) (e : unkD d = some k) : v = kV k := by
  cases d <;> simp only [unkD, Option.some.injEq, reduceCtorEq] at e <;> subst e <;> cases r <;> rfl
@[simp] def dkAt (i : Nat) (ρ : Rho) : Option (List Key × List D) := match (ρ[i]? : Option Sl) with
  | some (.tr (.dk ks ds)) => some (ks, ds)
  | _ => none
@[simp] def dtAt (i : Nat) (ρ : Rho) : Option (List (List Key) × List D) := match (ρ[i]? : Option Sl) with
  | some (.tr (.dt ks ds)) => some (ks, ds)
  | _ => none
end
section
variable {X : Cx} {G : Gx} {e a b o : Expr} {es : List Expr} {f g h : M D} {pos p1 : Pos} {pn : List Nat} {σ : St} {ρ ρ1 : Rho} {Hf H Hf1 H1 : Hp} {x : Str}
@[simp] def fDinT (f : M D) (i : Nat) : M D := fun ρ => (bnd f fun d ρ => match dtAt i ρ with
  | some (ks, ds) => (match keyT d with
    | some k => .ok (.bool (lkK ks ds k).isSome, ρ)
    | none => .bad)
  | none => .bad) ρ
@[simp] def sDputT (i : Nat) (f g : M D) : Rho → Fl := fun ρ => (sBnd f fun d ρ => if (dtAt i ρ).isSome = true then sBnd g (fun k ρ => match dtAt i ρ with
  | some (ks, ds) => (match keyT k with
    | some k => if small ks.length = true then .nx (ρ.set i (.tr (.dt (ptK ks ds k d).1 (ptK ks ds k d).2))) else .bad
    | none => .bad)
  | none => .bad) ρ else .bad) ρ
@[simp] def sDputK (i : Nat) (f g : M D) : Rho → Fl := fun ρ => (sBnd f fun d ρ => if (dkAt i ρ).isSome = true then sBnd g (fun k ρ => match dkAt i ρ with
  | some (ks, ds) => (match unkD k with
    | some k => if small ks.length = true then .nx (ρ.set i (.tr (.dk (ptK ks ds k d).1 (ptK ks ds k d).2))) else .bad
    | none => .bad)
  | none => .bad) ρ else .bad) ρ
@[simp] def fDget2 (i : Nat) (f g : M D) : M D := fun ρ => if (dkAt i ρ).isSome = true then bnd f (fun k => bnd g fun z ρ => match dkAt i ρ with
  | some (ks, ds) => (match unkD k with
    | some k => .ok ((lkK ks ds k).getD z, ρ)
    | none => .bad)
  | none => .bad) ρ else .bad
@[simp] def fDgetK (i : Nat) (f : M D) : M D := fun ρ => if (dkAt i ρ).isSome = true then bnd f (fun k ρ => match dkAt i ρ with
  | some (ks, ds) => (match (unkD k).bind (lkK ks ds) with
    | some d => .ok (d, ρ)
    | none => .bad)
  | none => .bad) ρ else .bad
def keysI : List Key → Option (List Int)
  | [] => some []
  | .inl i :: ks => (keysI ks).map (i :: ·)
  | .inr _ :: _ => none
@[simp] noncomputable def fSortD (i : Nat) : M (List D) := fun ρ => match dkAt i ρ with
  | some (ks, _) => (match keysI ks with
    | some ns => if ns.length < 64 then .ok ((sortI ns).map PyData.int, ρ) else .bad
    | none => .bad)
  | none => .bad
end
end Fx
namespace Mm
open PySem L2 Fx
variable [Tabz]
end Mm
namespace Fx
open PySem L2
variable [Tabz]
section
variable {X : Cx} {G : Gx} {a b : Expr} {rest : List Expr} {f g : M D} {pos : Pos}
def orS (d : D) (g : M D) : M D := match d with
  | .str y => if y.length ≤ 100000 then (if ((y.length : Int) != 0) = true then ret (.str y) else g) else fun _ => .bad
  | _ => fun _ => .bad
@[simp] def vOrS (f g : M D) : M D := fun ρ => (bnd f fun d => orS d g) ρ
end
end Fx
namespace Fx
open PySem PySem.Spec PyProof.Rows L2
end Fx
namespace Fx
open PySem L2
variable [Tabz]
section
variable {X : Cx} {G Ga : Gx} {e a b o : Expr} {es : List Expr} {f g : M PyData} {pos p apos : Pos} {pn : List Nat} {σ : St} {ρ ρ1 ρ2 : Rho} {Hf H Hf1 H1 Hf2 H2 Hf' H' : Hp} {Q : VK} {As : List Ag} {A : Ag} {vs : List V} {avs : List AgV} {x : Str} {k : Nat} {ps : List Str}
@[simp] def zAr (a : AgV) (ρ : Rho) : Option PyData := match arOf a ρ with
  | some (.d d) => some d
  | some (.l t) => frzT t
  | _ => none
@[simp] def zArs : List AgV → Rho → Option (List PyData)
  | [], _ => some []
  | a :: as, ρ => match zAr a ρ with
    | some x => (zArs as ρ).map (x :: ·)
    | none => none
@[simp] def callZM (F : List PyData → Out Rt) (avs : List AgV) : M Rt := fun ρ => match zArs avs ρ with
  | some xs => (match F xs with
    | .ok (.fz d) => if (sc d).isSome then .ok (.fz d, ρ) else .bad
    | .ok _ => .bad
    | .exc c => .exc c ρ
    | .bad => .bad)
  | none => .bad
@[simp] def fCallZ (F : List PyData → Out Rt) (As : List Ag) : M PyData := fun ρ => (fR (fun ρ => bnd (goT As) (callZM F) ρ)) ρ
def posK (k : Key) : List Key → Option Nat
  | [] => none
  | a :: l => if a = k then some 0 else (posK k l).map (· + 1)
theorem posK_val {k : Key} : ∀ {ks : List Key} {vs : List V} {n : Nat}, posK k ks = some n → ks.length = vs.length → ∃ v, vs[n]? = some v ∧ valV (ks.zip vs) k = some v
  | [], _, _, h, _ => by cases h
  | a :: ks, [], _, _, hl => by simp at hl
  | a :: ks, w :: vs, n, h, hl => by
    unfold posK at h
    by_cases q : a = k
    · rw [if_pos q] at h
      cases h
      exact ⟨w, rfl, by rw [List.zip_cons_cons]; exact valV_pos q⟩
    · rw [if_neg q] at h
      cases e : posK k ks with
      | none => rw [e] at h; cases h
      | some m =>
        rw [e] at h
        cases h
        obtain ⟨v, h1, h2⟩ := posK_val e (by simpa using hl)
        exact ⟨v, by simpa using h1, by rw [List.zip_cons_cons, valV_neg q]; exact h2⟩
@[simp] def plK (f : M Pth) (g : M PyData) : M Pth := fun ρ => (bnd f fun p => bnd g fun d ρ => match trAt p ρ with
  | some (.nd (.dct ks) ts) => (match (unkD d).bind fun k => posK k ks with
    | some n => if n < ts.length then .ok ((p.1, p.2 ++ [n]), ρ) else .bad
    | none => .bad)
  | _ => .bad) ρ
end
end Fx
namespace Fx
open PySem L2
variable [Tabz]
section
variable {q : Bool} {Hf Hf1 Hf2 H H1 H2 H' Hf' : Hp} {σ σ1 σ2 σ' : St} {ρ ρ1 ρ2 ρ' : Rho} {F : List Addr}
theorem Nxt.temp (n : Nxt q σ ρ Hf H σ ρ1 Hf1 H1) (rp : Rp Hf H σ ρ) (hF : ∀ a ∈ F, Fre H σ ρ a ∧ Hf1 a = none ∧ ¬ OwnA H1 σ ρ1 a) (sub : Same Hf1 Hf2) (sb : Sb Hf2 H2) (keep : ∀ a o, H1 a = some o → NT o → a ∉ F → H2 a = some o) (dom : ∀ a, H2 a = none → H1 a = none) (fr : ∀ a, Hf1 a = none → Hf2 a = none ∨ H1 a = none ∨ a ∈ F) : Nxt q σ ρ Hf H σ ρ1 Hf2 H2 := by
  have ko : ∀ a, OwnA H1 σ ρ1 a → H2 a = H1 a := fun a z => by
    obtain ⟨u, hu, tu⟩ := (n.rp.own z).2
    rw [hu]
    exact keep a u hu tu fun m => (hF a m).2.2 z
  have kl : ∀ a, LkA H1 σ ρ1 a → H2 a = H1 a := fun a z => by
    obtain ⟨u, hu, tu⟩ := n.rp.lka z
    rw [hu]
    exact keep a u hu tu fun m => (hF a m).1.notLk rp (n.ls a z)
  refine ⟨n.sub.trans sub, fun a o h t no => keep a o (n.keep a o h t no) t fun m => ?_, fun a ⟨i, z⟩ => n.os a ⟨i, (n.rp.ownI_iff (fun b y => ko b ⟨i, y⟩) a).mp z⟩, fun a z => n.ls a (n.rp.lka_of kl z), fun a h => n.dom a (dom a h), fun a z => (n.fr a z).elim (fun y => (fr a y).elim .inl fun w => w.elim (fun w => .inr (.inl (n.dom a w))) fun w => .inr (hF a w).1) .inr, fun hq => ⟨(n.qt hq).1.trans fun i t e => ⟨e, rfl, fun a z => ko a ⟨i, z⟩⟩, (n.qt hq).2⟩, n.rp.grow sub sb.sm sb.tb sb.nt (fun a z => ⟨?_, ko a z⟩) kl⟩
  · rcases (hF a m).1 with y | y
    · rw [h] at y; cases y
    · exact no y
  · rcases fr a (n.rp.own z).1 with y | y | y
    · exact y
    · obtain ⟨u, hu, _⟩ := (n.rp.own z).2
      rw [hu] at y; cases y
    · exact absurd z (hF a y).2.2
theorem Nxt.nob (n : Nxt q σ ρ1 Hf1 H1 σ ρ2 Hf2 H2) {a : Addr} {o : HO} (h1 : H1 a = some o) (ht : NT o) (hf : Hf1 a = none) (ho : ¬ OwnA H1 σ ρ1 a) : H2 a = some o ∧ Hf2 a = none ∧ ¬ OwnA H2 σ ρ2 a := by
  refine ⟨n.keep a o h1 ht ho, ?_, fun z => (n.os a z).elim ho fun y => by rw [h1] at y; cases y⟩
  rcases n.fr a hf with y | y | y
  · exact y
  · rw [h1] at y; cases y
  · exact absurd y ho
end
section
variable {X : Cx} {G Ga : Gx} {e a b o : Expr} {es : List Expr} {f g : M PyData} {pos p apos : Pos} {pn : List Nat} {σ : St} {ρ ρ1 ρ2 : Rho} {Hf H Hf1 H1 Hf2 H2 Hf' H' : Hp} {Q : VK} {As : List Ag} {A B : Opd} {vs : List V} {avs : List AgV} {x : Str} {k : Nat} {ps : List Str}
@[simp] def sRetG (i : Nat) : Rho → Fl := fun ρ => match (ρ[i]? : Option Sl) with
  | some (.fz d) => .ret (.fz d) ρ
  | some (.ow ds) => .ret (.ow ds) (ρ.set i .un)
  | some (.tr t) => .ret (.tr t) (ρ.set i .un)
  | _ => .bad
@[simp] def sSetPa (i : Nat) (f : M Pth) : Rho → Fl := fun ρ => (sBnd f fun p ρ => if p.1 = i then .bad else .nx ((killB kNo i ρ).set i (.pa p.1 p.2))) ρ
def oDix : PyData → PyData → Option PyData
  | .dict kvs, k => (keysD kvs).bind fun ks => (unkD k).bind fun key => (posK key ks).bind fun n => (kvs.map (·.2))[n]?
  | _, _ => none
theorem fe_dix (hu : X.A.units + 1 < cLine) (ha : PE X a (A.t G)) (hb : PE X b (B.t G)) (hqa : A.qok G := by first | exact True.intro | rfl) (hs : NoSl b := by exact fun _ _ => rfl) : PE X (.Subscript a b pos) (tE G (fOp oDix A B)) := by
  refine (pe_dget hu ha hb hs).imp fun σ H Q ⟨Hf, ρ, rp, af⟩ => ?_
  refine Opd.run (stepO rp af) fun x H1 ⟨a, Hf1, ρ1, n1, ra, af1⟩ => Opd.run (stepO n1.rp af1) fun y H2 ⟨b, Hf2, ρ2, n2, rb, af2⟩ => ?_
  obtain ⟨a', b', ea, eb, af3⟩ := fin2_some af2
  obtain ⟨d, ed, k⟩ := finO n2.rp af3
  have r1 := Opd.end n2.rp (Opd.keep hqa n1.rp n2 ra) ea
  have r2 := Opd.end n2.rp rb eb
  cases a' with
  | dict kvs =>
    have q := r1.rep fun _ z => nomatch z
    unfold oDix at ed
    dsimp only at ed
    generalize hd : PyData.dict kvs = dd at q
    cases q with
    | @ins aa dx c xs ds h l r =>
      unfold instD at hd
      cases hd
      cases ed
    | @dct aa ks xs ds h l r =>
      cases hd
      obtain ⟨k1, _⟩ := keysD_zip (ks := ks) (ds := ds) (l.trans (repA_len r))
      rw [k1] at ed
      simp only [Option.bind_some] at ed
      cases e2 : unkD b' with
      | none => rw [e2] at ed; cases ed
      | some key =>
        rw [e2] at ed
        simp only [Option.bind_some] at ed
        cases e3 : posK key ks with
        | none => rw [e3] at ed; cases ed
        | some m =>
          rw [e3] at ed
          simp only [Option.bind_some] at ed
          have es : (((ks.map kD).zip ds).map (·.2)) = ds := List.map_snd_zip (by rw [List.length_map, l, repA_len r]; exact Nat.le_refl _)
          rw [es] at ed
          obtain ⟨v, hv, hval⟩ := posK_val e3 l
          obtain ⟨v', hv', rv⟩ := repA_get r ed
          rw [hv] at hv'; cases hv'
          have ey : y = kV key := by
            refine unkD_rep (r2.rep fun ds z => ?_) e2
            subst z
            cases e2
          subst ey
          exact ⟨aa, v, rfl, .inl ⟨_, key, .inl (n2.rp.sub _ _ h), rfl, hval.symm⟩, k v rv⟩
    | _ => cases hd
  | _ => cases ed
@[simp] def sAppT (f : M (List PyData)) (g : M PyData) : Rho → Fl := fun ρ => (sBnd f fun ds => if small ds.length then sBnd g (fun _ ρ => .nx ρ) else fun _ => .bad) ρ
end
end Fx
namespace Fx
open PySem L2
variable [Tabz]
section
variable {X : Cx} {G Ga : Gx} {e a b o : Expr} {es : List Expr} {f g : M PyData} {pos p apos : Pos} {pn : List Nat} {σ : St} {ρ ρ1 ρ2 : Rho} {Hf H Hf1 H1 Hf2 H2 Hf' H' : Hp} {Q : VK} {As : List Ag} {A B : Opd} {vs : List V} {avs : List AgV} {x : Str} {k : Nat} {ps : List Str}
@[simp] def noX : Fl → Fl
  | .exc _ _ => .bad
  | x => x
@[simp] def sTryN (m : Str → Option Bool) (sb su : Rho → Fl) : Rho → Fl := fun ρ => match sb ρ with
  | .exc c ρ1 => (match m c with
    | some true => noX (su ρ1)
    | some false => .exc c ρ1
    | none => .bad)
  | x => x
@[simp] def fRevO (f : M Pth) : M (List PyData) := fun ρ => (bnd f fun p ρ => match (trAt p ρ).bind lkD with
  | some (.list ds) => .ok (ds.reverse, ρ)
  | _ => .bad) ρ
@[simp] def fMethK (F : List Ar → OT) (t : Tr) (avs : List AgV) : M Rt := fun ρ => match arsOf avs ρ with
  | some as => if (avs.all fun a => (rootO a).isNone) = true then (match F (.o t :: as) with
    | .ok (.fz d) _ => .ok (.fz d, ρ)
    | .exc x _ => .exc x ρ
    | _ => .bad) else .bad
  | none => .bad
@[simp] def fMethN (c : Str) (F : List Ar → OT) (f : M Tr) (As : List Ag) : M Rt := fun ρ => (bnd f fun t ρ => match t with
  | .nd (.ins c') ts => if c' = c then bnd (goT As) (fMethK F (.nd (.ins c') ts)) ρ else .bad
  | _ => .bad) ρ
def AfNs (G : Gx) (σ : St) (ρ : Rho) (Hf H : Hp) (Q : List V → Hp → Prop) : Res (List Key × List Tr) → Prop
  | .ok (x, ρ') => ∀ vs F Hf' H', Nxt G.q σ ρ Hf H σ ρ' Hf' H' → TRs Hf' H' vs x.2 F → F.Nodup → (∀ a ∈ F, Fre H σ ρ a ∧ Hf' a = none ∧ ¬ OwnA H' σ ρ' a) → Q vs H'
  | .exc c ρ' => ∀ Hf' H', Nxt G.q σ ρ Hf H σ ρ' Hf' H' → G.W (.ref (G.cA c)) none σ H'
  | .bad => False
@[simp] def nsNil : M (List Key × List Tr) := ret ([], [])
@[simp] def nsCons (k : Str) (f : M Tr) (r : M (List Key × List Tr)) : M (List Key × List Tr) := fun ρ => (bnd f fun t => bnd r fun x => ret (Sum.inr k :: x.1, t :: x.2)) ρ
@[simp] def nDisp (r : M (List Key × List Tr)) : M Tr := fun ρ => (bnd r fun x => ret (.nd (.dct x.1) x.2)) ρ
structure Nds (X : Cx) (G : Gx) (pos : Pos) (keys : List (Option Expr)) (values : List Expr) (ks : List Key) (r : M (List Key × List Tr)) : Prop where
  ex : ∃ trs : List (TE × TE), PPs X pos keys values trs ∧ ∀ (σ : St) (H : Hp) (Hf : Hp) (ρ : Rho) (Q : List (V × V) → Hp → Prop), Rp Hf H σ ρ → AfNs G σ ρ Hf H (fun vs H' => ∀ ps, ps = (ks.zip vs).map (fun kv => (kV kv.1, kv.2)) → Q ps H') (r ρ) → tPairs trs σ H Q
  keys : ∀ ρ x ρ', r ρ = .ok (x, ρ') → x.1 = ks ∧ x.2.length = ks.length
theorem nds_nil : Nds X G pos [] [] [] nsNil := ⟨⟨[], pps_nil, fun σ H Hf ρ Q rp af => af [] [] Hf H (.refl rp) .nil List.nodup_nil (fun _ z => nomatch z) [] rfl⟩, fun ρ x ρ' h => by cases h; exact ⟨rfl, rfl⟩⟩
theorem nds_cons {y : Str} {j : Nat} {kp : Pos} {v : Expr} {f : M Tr} {ks : List Key} {keys : List (Option Expr)} {values : List Expr} {r : M (List Key × List Tr)} (hv : PE X v (tN G f)) (hr : Nds X G pos keys values ks r) : Nds X G pos (some (.Constant (.str y) j kp) :: keys) (v :: values) (.inr y :: ks) (nsCons y f r) := by
  obtain ⟨⟨trs, pp, hq⟩, hk⟩ := hr
  refine ⟨⟨(tC (.str y), tN G f) :: trs, pps_cons pe_str hv pp, fun σ H Hf ρ Q rp af => ?_⟩, fun ρ x ρ' h => ?_⟩
  · show tN G f σ H _
    refine ⟨Hf, ρ, rp, ?_⟩
    unfold nsCons bnd at af
    cases e : f ρ with
    | bad => rw [e] at af; exact af
    | exc c ρ1 => rw [e] at af; exact af
    | ok z =>
      obtain ⟨t, ρ1⟩ := z
      rw [e] at af
      dsimp only at af
      intro v F1 Hf1 H1 n1 r1 nd1 hF1
      refine hq σ H1 Hf1 ρ1 _ n1.rp ?_
      cases e2 : r ρ1 with
      | bad => rw [e2] at af; exact af
      | exc c ρ2 => rw [e2] at af; exact fun Hf' H' n => af Hf' H' (n1.trans n)
      | ok z =>
        obtain ⟨x, ρ2⟩ := z
        rw [e2] at af
        intro vs F2 Hf2 H2 n2 r2 nd2 hF2 ps eps
        have nob : ∀ a ∈ F1, H2 a = H1 a ∧ Hf2 a = none ∧ ¬ OwnA H2 σ ρ2 a := fun a m => by
          obtain ⟨o, h1, h2⟩ := r1.obj a m
          obtain ⟨g1, g2, g3⟩ := n2.nob h1 h2 (hF1 a m).2.1 (hF1 a m).2.2
          exact ⟨by rw [g1, h1], g2, g3⟩
        refine af (v :: vs) (F1 ++ F2) Hf2 H2 (n1.trans n2) (.cons (r1.mono n2.sub fun a m => (nob a m).1) r2) ?_ (fun a m => ?_) _ ?_
        · rw [List.nodup_append]
          refine ⟨nd1, nd2, fun a m b mb eab => ?_⟩
          subst eab
          obtain ⟨o, h1, _⟩ := r1.obj a m
          rcases (hF2 a mb).1 with z | z
          · rw [h1] at z; cases z
          · exact (hF1 a m).2.2 z
        · rcases List.mem_append.mp m with m | m
          · exact ⟨(hF1 a m).1, (nob a m).2.1, (nob a m).2.2⟩
          · exact ⟨(hF2 a m).1.back n1, (hF2 a m).2⟩
        · rw [eps]; rfl
  · unfold nsCons bnd at h
    cases e : f ρ with
    | bad => rw [e] at h; cases h
    | exc c ρ1 => rw [e] at h; cases h
    | ok z =>
      obtain ⟨t, ρ1⟩ := z
      rw [e] at h
      dsimp only at h
      cases e2 : r ρ1 with
      | bad => rw [e2] at h; cases h
      | exc c ρ2 => rw [e2] at h; cases h
      | ok z =>
        obtain ⟨x1, ρ2⟩ := z
        rw [e2] at h
        cases h
        obtain ⟨h1, h2⟩ := hk _ _ _ e2
        exact ⟨by rw [← h1], by simp [h2]⟩
theorem merge_new : ∀ {more acc : List (Key × V)}, (more.map (·.1)).Nodup → (∀ p ∈ more, ∀ q ∈ acc, q.1 ≠ p.1) → mergeK acc more = acc ++ more
  | [], acc, _, _ => by rw [List.append_nil]; rfl
  | p :: more, acc, hn, hd => by
    rw [List.map_cons, List.nodup_cons] at hn
    have e1 : putK acc p.1 p.2 = acc ++ [(p.1, p.2)] := by
      unfold putK
      rw [if_neg]
      intro z
      obtain ⟨q, mq, hq⟩ := List.any_eq_true.mp z
      exact hd p List.mem_cons_self q mq (of_decide_eq_true hq)
    show mergeK (putK acc p.1 p.2) more = _
    rw [e1, merge_new hn.2 fun q mq r mr => ?_]
    · simp
    · rcases List.mem_append.mp mr with m | m
      · exact hd q (List.mem_cons_of_mem _ mq) r m
      · rw [List.mem_singleton] at m
        subst m
        intro z
        exact hn.1 (List.mem_map.mpr ⟨q, mq, z.symm⟩)
theorem fn_disp {keys : List (Option Expr)} {values : List Expr} {ks : List Key} {r : M (List Key × List Tr)} (h : Nds X G pos keys values ks r) (hall : keys.all (·.isSome) = true) (hl : keys.length = values.length) (h0 : keys ≠ []) (h15 : keys.length ≤ 15) (hks : ks.Nodup ∧ ks.length ≤ 15) : PE X (.Dict keys values pos) (tN G (nDisp r)) := by
  obtain ⟨⟨trs, pp, hq⟩, hk⟩ := h
  refine (pe_disp pp hall hl h0 h15).imp fun σ H Q ⟨Hf, ρ, rp, af⟩ => fun p hp => ?_
  have n0 : Nxt G.q σ ρ Hf H σ ρ Hf (upd H p (.dK [])) := rp.newO hp
  refine hq σ _ Hf ρ _ n0.rp ?_
  unfold nDisp bnd at af
  cases e : r ρ with
  | bad => rw [e] at af; exact af
  | exc c ρ1 => rw [e] at af; exact fun Hf' H' n => af Hf' H' (n0.trans n)
  | ok z =>
    obtain ⟨x, ρ1⟩ := z
    rw [e] at af
    obtain ⟨k1, k2⟩ := hk _ _ _ e
    intro vs F Hf1 H1 n1 r1 nd1 hF1 ps eps
    have hpo : ¬ OwnA (upd H p (.dK [])) σ ρ p := fun z => (n0.os p z).elim (fun y => by
      obtain ⟨u, hu, _⟩ := (rp.own y).2
      rw [hp] at hu; cases hu) fun _ => by
      exact (rp.notOwnU hp) z
    have hfp : Hf p = none := rp.sub.free hp
    obtain ⟨g1, g2, g3⟩ := n1.nob (a := p) (o := .dK []) upd_same (fun _ z => nomatch z) hfp hpo
    have pF : p ∉ F := fun m => by
      rcases (hF1 p m).1 with z | z
      · rw [upd_same] at z; cases z
      · exact hpo z
    have hlen := r1.len
    refine ⟨g1, ks.zip vs, eps, by rw [List.length_zip]; omega, ?_⟩
    have em : mergeK [] (ks.zip vs) = ks.zip vs := by
      rw [merge_new (by rw [List.map_fst_zip (by omega)]; exact hks.1) (fun _ _ _ z => absurd z List.not_mem_nil), List.nil_append]
    rw [em]
    have up : ∀ a, a ≠ p → upd H1 p (.dK (ks.zip vs)) a = H1 a := fun a z => upd_ne z
    have nx : Nxt G.q σ ρ Hf H σ ρ1 Hf1 (upd H1 p (.dK (ks.zip vs))) := Nxt.temp (F := [p]) (n0.trans n1) rp (fun a m => by rw [List.mem_singleton] at m; subst m; exact ⟨.inl hp, g2, g3⟩) (Same.refl _) ⟨fun b u hb => by
      by_cases z : b = p
      · subst z; rw [g2] at hb; cases hb
      · rw [upd_ne z]; exact n1.rp.sub b u hb, n1.rp.tb.setO g1 (fun _ z => nomatch z) (fun _ z => nomatch z), n1.rp.nt⟩ (fun b u hb _ hm => by rw [upd_ne fun z => hm (by rw [z]; exact List.mem_singleton.mpr rfl)]; exact hb) (fun b hb => by
      by_cases z : b = p
      · subst z; rw [upd_same] at hb; cases hb
      · rw [upd_ne z] at hb; exact hb) fun b hb => .inl hb
    have own2 : ∀ a, OwnA (upd H1 p (.dK (ks.zip vs))) σ ρ1 a → OwnA H1 σ ρ1 a := fun a ⟨i, z⟩ => ⟨i, (n1.rp.ownI_iff (fun b y => up b fun w => g3 ⟨i, w ▸ y⟩) a).mp z⟩
    refine af (.ref p) (p :: F) Hf1 _ nx (.nd (k := .dct x.1) ⟨by rw [k1, hlen]; exact k2.symm, by rw [upd_same, k1]⟩ (r1.mono (Same.refl _) fun a m => up a fun z => pF (z ▸ m))) (List.nodup_cons.mpr ⟨pF, nd1⟩) fun a m => ?_
    rcases List.mem_cons.mp m with z | m
    · subst z; exact ⟨.inl hp, g2, fun z => g3 (own2 _ z)⟩
    · refine ⟨(hF1 a m).1.back n0, (hF1 a m).2.1, fun z => (hF1 a m).2.2 (own2 a z)⟩
end
end Fx
namespace Fx
open PySem L2
variable [Tabz]
section
variable {X : Cx} {G Ga : Gx} {e a b o : Expr} {es : List Expr} {f g : M PyData} {pos p apos : Pos} {pn : List Nat} {σ : St} {ρ ρ1 ρ2 : Rho} {Hf H Hf1 H1 Hf2 H2 Hf' H' : Hp} {Q : VK} {A B C : Opd} {As : List Opd} {vs : List V} {x : Str} {k : Nat}
def dlk (d k : PyData) : Option (Option PyData) := match d with
  | .dict kvs => (keysD kvs).bind fun ks => (unkD k).map fun key => lkK ks (kvs.map (·.2)) key
  | _ => none
theorem dlk_rep (sm : Same Hf H) {v w : V} {d k : PyData} {r : Option PyData} (rd : Rep Hf v d) (rk : Rep Hf w k) (e : dlk d k = some r) : ∃ a ov, v = .ref a ∧ DGet H a w ov ∧ (r = none ∧ ov = none ∨ ∃ d' v', r = some d' ∧ ov = some v' ∧ Rep Hf v' d') := by
  unfold dlk at e
  cases d with
  | dict kvs =>
    dsimp only at e
    generalize hd : PyData.dict kvs = dd at rd
    cases rd with
    | @ins aa dx c xs ds h l rr =>
      unfold instD at hd
      cases hd
      cases e
    | @dct aa ks xs ds h l rr =>
      cases hd
      obtain ⟨k1, _⟩ := keysD_zip (ks := ks) (ds := ds) (l.trans (repA_len rr))
      rw [k1] at e
      simp only [Option.bind_some] at e
      cases e2 : unkD k with
      | none => rw [e2] at e; cases e
      | some key =>
        rw [e2] at e
        have es : (((ks.map kD).zip ds).map (·.2)) = ds := List.map_snd_zip (by rw [List.length_map, l, repA_len rr]; exact Nat.le_refl _)
        rw [es] at e
        cases e
        have ew := unkD_rep rk e2
        subst ew
        refine ⟨aa, _, rfl, .inl ⟨_, key, .inl (sm _ _ h), rfl, rfl⟩, ?_⟩
        rw [valV_zip]
        rcases lkK_rep (ks := ks) (k := key) rr with ⟨a1, b1⟩ | ⟨v', d', a1, b1, c1⟩
        · exact .inl ⟨b1, a1⟩
        · exact .inr ⟨d', v', b1, a1, c1⟩
    | _ => cases hd
  | _ => cases e
theorem dlk_isD (sm : Same Hf H) {v : V} {d k : PyData} {r : Option PyData} (rd : Rep Hf v d) (e : dlk d k = some r) : ∃ a, v = .ref a ∧ IsD H a := by
  unfold dlk at e
  cases d with
  | dict kvs =>
    dsimp only at e
    generalize hd : PyData.dict kvs = dd at rd
    cases rd with
    | @ins aa dx c xs ds h l rr =>
      unfold instD at hd
      cases hd
      cases e
    | @dct aa ks xs ds h l rr => exact ⟨aa, rfl, .inl ⟨_, .of (sm _ _ h)⟩⟩
    | _ => cases hd
  | _ => cases e
@[simp] def fDgD (f g h : M PyData) : M PyData := fun ρ => (bnd f fun d => if (dlk d (.int 0)).isSome = true then bnd g (fun k => bnd h fun z => opt ((dlk d k).map fun r => r.getD z)) else fun _ => .bad) ρ
theorem fe_dgD {h : M PyData} {ap cp : Pos} (hu : X.A.units + 1 < cLine) (ho : PE X o (tE G f)) (ha : PE X a (tE G g)) (hb : PE X b (tE G h)) (m : M2 X o "get" ap a b cp := by exact ⟨rfl, rfl, rfl, rfl⟩) : PE X (.Call (.Attribute o "get" ap) [a, b] [] cp) (tE G (fDgD f g h)) := by
  refine (pe_dget2 hu ho ha hb m).imp fun σ H Q ⟨Hf, ρ, rp, af⟩ => ?_
  refine (step rp af).mono fun x H1 ⟨d, Hf1, ρ1, n1, rd, af1⟩ => ?_
  cases e0 : dlk d (.int 0) with
  | none => simp only [e0] at af1; exact False.elim af1
  | some r0 =>
    simp only [e0, Option.isSome_some, if_true] at af1
    obtain ⟨aa, rfl, hd⟩ := dlk_isD n1.rp.sub rd e0
    refine ⟨aa, rfl, hd, (step n1.rp af1).mono fun y H2 ⟨k, Hf2, ρ2, n2, rk, af2⟩ => (step n2.rp af2).mono fun z H3 ⟨zd, Hf3, ρ3, n3, rz, af3⟩ => ?_⟩
    obtain ⟨d', e1, q1⟩ := finO n3.rp af3
    cases e2 : dlk d k with
    | none => rw [e2] at e1; cases e1
    | some r =>
      rw [e2] at e1
      cases e1
      obtain ⟨a2, ov, ev, g1, g2⟩ := dlk_rep n3.rp.sub (rep_same (n2.sub.trans n3.sub) rd) (rep_same n3.sub rk) e2
      cases ev
      refine ⟨ov, g1, q1 _ ?_⟩
      rcases g2 with ⟨h1, h2⟩ | ⟨d1, v1, h1, h2, h3⟩
      · subst h1 h2; exact rz
      · subst h1 h2; exact h3
@[simp] def fDinD (f g : M PyData) : M PyData := fun ρ => (bnd f fun k => bnd g fun d => opt ((dlk d k).map fun r => .bool r.isSome)) ρ
end
section
variable {X : Cx} {G : Gx} {e a b o : Expr} {es : List Expr} {pos p apos : Pos} {As : List Ag} {A : Ag} {x : Str}
@[simp] def sSetIxP (f : M PyData) (h : M Pth) (g : M PyData) : Rho → Fl := fun ρ => (sBnd f fun d => sMutP h g (kSet d)) ρ
@[simp] def ndAt (i : Nat) (ρ : Rho) : Option (List Key × List Tr) := match (ρ[i]? : Option Sl) with
  | some (.tr (.nd (.dct ks) ts)) => some (ks, ts)
  | _ => none
@[simp] def sDnd (i : Nat) (f : M Tr) (g : M PyData) : Rho → Fl := fun ρ => (sBnd f fun t ρ => if (ndAt i ρ).isSome = true then sBnd g (fun k ρ1 => match ndAt i ρ1 with
  | some (ks, ts) => (match unkD k with
    | some key => if (posK key ks).isNone = true ∧ ks.length < 1000 then .nx (killB (kPre []) i (ρ1.set i (.tr (.nd (.dct (ks ++ [key])) (ts ++ [t]))))) else .bad
    | none => .bad)
  | none => .bad) ρ else .bad) ρ
end
end Fx
namespace Fx
open PySem L2
theorem ln1 {x0 : Str} {Q : List Value → Prop} (h : ∀ a0, Q [a0]) (us : List Value) (hl : us.length = ([x0] : List Str).length) : Q us := match us, hl with | [a0], _ => h a0
theorem ln2 {x0 x1 : Str} {Q : List Value → Prop} (h : ∀ a0 a1, Q [a0, a1]) (us : List Value) (hl : us.length = ([x0, x1] : List Str).length) : Q us := match us, hl with | [a0, a1], _ => h a0 a1
end Fx
namespace Fx
open PySem L2
variable [Tabz]
@[simp] def itemsQ : D → Option (List D)
  | .list ds => some ds
  | .tuple ds => some ds
  | _ => none
@[simp] def fItQ (f : M D) : M (List D) := fun ρ => (bnd f fun d => opt (itemsQ d)) ρ
end Fx
namespace Fx
open PySem L2
variable [Tabz]
end Fx
namespace Mm
open PySem L2 Fx
variable [Tabz]
def exL : List Str := ["BadDay", "BadTerm", "BadCount", "BadDuty", "BadParts", "TooMuch", "NoKind", "NotRaw", "NoLot", "NoOut", "NoClaim", "Struck", "Claimed", "Called", "NothingDue", "Full", "BadShare"]
def mEx (c : Str) : Option Bool := if c ∈ exL then some true else none
def is_ValueError (c : Str) : Bool := true
end Mm
namespace Fx
open PySem L2
variable [Tabz]
@[simp] def kPopAt (j : PyData) (ds : List PyData) : Option (PyData × List PyData) := match j with
  | .int k => if small ds.length then (match ixN ds.length k with
    | some n => (ds[n]?).map fun d => (d, ds.eraseIdx n)
    | none => none) else none
  | _ => none
@[simp] def fPopAt (i : Nat) (g : M PyData) : M PyData := fun ρ => if isOw i ρ then (bnd g fun j ρ1 => match ρ1[i]? with
  | some (.ow ds) => (match kPopAt j ds with
    | some (d, es) => .ok (d, ρ1.set i (.ow es))
    | none => .bad)
  | _ => .bad) ρ else .bad
section
variable {X : Cx} {G : Gx} {pos : Pos} {e : Expr}
theorem repA_erase {H : Hp} : ∀ {vs : List V} {ds : List D}, RepA H vs ds → ∀ n : Nat, RepA H (vs.eraseIdx n) (ds.eraseIdx n)
  | _, _, .nil, _ => .nil
  | _, _, .cons h t, 0 => t
  | _, _, .cons h t, n + 1 => .cons h (repA_erase t n)
theorem fe_popAt (i : Nat) {x : Str} {p1 ap cp : Pos} {g : M PyData} (he : PE X e (tE G g)) (hN : X.N[i]? = some x := by rfl) (hv : Vis X.env.scope x := by first | exact Or.inl rfl | exact Or.inr (Or.inl rfl) | exact Or.inr (Or.inr rfl)) (hd : (x == ("__debug__" : Str)) = false := by decide)
    (hcd : (x == ("__classdict__" : Str)) = false := by decide) (hbase : attributeBase (.Name x p1) "pop" X.env (eval (.Name x p1) X.env) = eval (.Name x p1) X.env := by rfl)
    (hfew : ((backTo cp (starEach [e] X.env)).all (fun x => !x.1) && (backToKw cp (keywordEach [] X.env)).all (fun x => x.1.isSome) && decide (([e] : List Expr).length + ([] : List Keyword).length + (if ([] : List Keyword).isEmpty then 0 else 1) < 30)) = true := by rfl)
    (hline : (ap.endLine == cp.line) = true := by rfl) (hs : starEach [e] X.env = (false, eval e X.env) :: starEach [] X.env := by rfl) (hplain : (backTo cp (starEach [] X.env)).any (·.1) = false := by rfl) :
    PE X (.Call (.Attribute (.Name x p1) "pop" ap) [e] [] cp) (tE G (fPopAt i g)) := by
  refine (pe_bm PySem.F.plainAttrs_list PySem.F.slot_list_pop PySem.F.type_list_pop mt_popAt (pe_var hN hv hd hcd) (pa_cons he pa_nil hs) hbase hfew hline hs hplain).imp fun σ H Q ⟨Hf, ρ, rp, af⟩ => ?_
  unfold fPopAt at af
  cases e0 : isOw i ρ with
  | false => rw [e0] at af; exact False.elim af
  | true =>
    rw [e0, if_pos rfl] at af
    obtain ⟨ds0, h0⟩ := isOw_ow e0
    obtain ⟨p, vs0, s0, _, g0, _⟩ := slok_ow (rp.sl i _ h0)
    refine ⟨_, s0, .inl ⟨rfl, _, SqL.of g0⟩, (step rp af).mono fun v H1 ⟨j, Hf1, ρ1, n1, rj, af1⟩ => ?_⟩
    split at af1
    · rename_i ds hi
      obtain ⟨q, vs, s1, f1, g1, r1⟩ := slok_ow (n1.rp.sl i _ hi)
      rw [s0] at s1
      cases s1
      split at af1
      · rename_i d es ek
        cases j <;> simp only [kPopAt, reduceCtorEq] at ek
        rename_i k
        split at ek
        · rename_i hsm
          split at ek
          · rename_i n hn
            cases hg : ds[n]? with
            | none => rw [hg] at ek; cases ek
            | some d' =>
              rw [hg] at ek
              cases ek
              obtain ⟨v', e2, r2⟩ := repA_get r1 hg
              rw [rep_int rj]
              have hsm : ds.length ≤ 100000 := of_decide_eq_true hsm
              obtain ⟨q1, q2, q3, q4⟩ := ixN_seq hn
              refine ⟨p, vs, k, n, v', rfl, rfl, g1, by omega, by omega, by rw [repA_len r1]; exact q1, e2, ?_⟩
              have n2 := n1.rp.mut (q := G.q) hi s0 (repA_erase r1 n)
              exact af1 v' Hf1 _ n2 r2
          · cases ek
        · cases ek
      · exact False.elim af1
    · exact False.elim af1
end
end Fx
namespace Fx
open PySem L2
variable [Tabz]
section
variable {X : Cx} {G : Gx} {e a b o : Expr} {es : List Expr} {f g : M PyData} {pos : Pos} {pn : List Nat} {σ : St} {ρ ρ1 : Rho} {Hf H Hf1 H1 : Hp}
@[simp] def ndS : Tr → Option (List Tr)
  | .nd .lst ts => some ts
  | .nd .tup ts => some ts
  | _ => none
@[simp] def plI (f : M Pth) (g : M PyData) : M Pth := fun ρ => (bnd f fun p => bnd g fun d ρ => match (trAt p ρ).bind ndS, d with
  | some ts, .int i => (match ixN ts.length i with
    | some n => .ok ((p.1, p.2 ++ [n]), ρ)
    | none => .bad)
  | _, _ => .bad) ρ
@[simp] def tsNil : M (List Tr) := ret []
@[simp] def tsCons (f : M Tr) (r : M (List Tr)) : M (List Tr) := fun ρ => (bnd f fun t => bnd r fun ts => ret (t :: ts)) ρ
@[simp] def nTupT (r : M (List Tr)) : M Tr := fun ρ => (bnd r fun ts => if small ts.length then ret (.nd .tup ts) else fun _ => .bad) ρ
@[simp] def nLstT (r : M (List Tr)) : M Tr := fun ρ => (bnd r fun ts => if small ts.length then ret (.nd .lst ts) else fun _ => .bad) ρ
@[simp] def sClrP (f : M Pth) : Rho → Fl := fun ρ => (sBnd f fun p ρ => if (owP p ρ).isSome = true then .nx (putP p (.ow []) ρ) else .bad) ρ
end
end Fx
namespace Fx
open PySem L2
variable [Tabz]
end Fx
namespace Fx
open PySem L2
variable [Tabz]
section
variable {Hf H Hf1 H1 : Hp} {σ σ1 : St} {ρ ρ1 : Rho}
def len1 (k : Nat) (ρ : Rho) : Option Nat := match (ρ[k]? : Option Sl) with
  | some (.tr (.nd .lst ts)) => some ts.length
  | some (.ow ds) => some ds.length
  | _ => none
def bnd1 (j k i : Nat) (ρ : Rho) : Option Rho := match (ρ[k]? : Option Sl) with
  | some (.tr (.nd .lst _)) => some ((killB kNo j ρ).set j (.pa k [i]))
  | some (.ow ds) => (ds[i]?).map fun d => ρ.set j (.fz d)
  | _ => none
end
section
variable {X : Cx} {G : Gx} {e a b o iter tg elt : Expr} {es : List Expr} {sts : List Stmt} {s : Rho → Fl} {pos p p1 p2 : Pos} {pn pk is vs : List Nat} {cur : Rho → Option Nat} {g : Nat → Rho → Option Rho} {tgt : TG} {wi : TI} {x y : Str} {j k j2 k2 : Nat} {fe : M PyData}
@[simp] def curZ (k k2 : Nat) (ρ : Rho) : Option Nat := (len1 k ρ).bind fun a => (len1 k2 ρ).map fun b => min a b
@[simp] def bndZ (j j2 k k2 : Nat) (i : Nat) (ρ : Rho) : Option Rho := (bnd1 j k i ρ).bind (bnd1 j2 k2 i)
end
end Fx
namespace Fx
open PySem L2
variable [Tabz]
section
variable {X : Cx} {G : Gx} {e elt : Expr} {sts : List Stmt} {s : Rho → Fl} {pos : Pos} {pn : List Nat} {fe : M PyData} {f : M Tr}
@[simp] def ndl (i : Nat) (ρ : Rho) : Option (List Tr) := match (ρ[i]? : Option Sl) with
  | some (.tr (.nd .lst ts)) => some ts
  | _ => none
@[simp] def sAppN (i : Nat) (f : M Tr) : Rho → Fl := fun ρ => if (ndl i ρ).isSome = true then (sBnd f fun t ρ1 => match ndl i ρ1 with
    | some ts => if ts.length < 1000 then .nx (killB (kPre []) i (ρ1.set i (.tr (.nd .lst (ts ++ [t]))))) else .bad
    | none => .bad) ρ else .bad
@[simp] def fLenN (f : M Pth) : M PyData := fun ρ => (bnd f fun p ρ => match (trAt p ρ).bind ndS with
  | some ts => .ok (.int (ts.length : Int), ρ)
  | none => .bad) ρ
end
end Fx
namespace Fx
open PySem L2
variable [Tabz]
section
variable {X : Cx} {G : Gx} {e e2 : Expr} {pos : Pos} {f g : M PyData}
def oLr2 : PyData → PyData → Option (List PyData)
  | .int i, .int j => if 0 ≤ i ∧ i ≤ 100000 ∧ 0 ≤ j ∧ j ≤ 100000 then some (rng i (j - i).toNat) else none
  | _, _ => none
@[simp] def fLr2 (f g : M PyData) : M (List PyData) := fun ρ => (bnd f fun a => bnd g fun b => opt (oLr2 a b)) ρ
end
end Fx
namespace Fx
open PySem L2
theorem invX {X : Cx} {pins : List (Addr × Obj)} {σ : St} {H : Hp} {s : Shared} (E : Value → Shared → Prop) (I : Inv X pins σ H s) : Inv { X with xe := E } pins σ H s :=
  ⟨⟨I.ok.mod, I.ok.kind, I.ok.glob, I.ok.blt, I.ok.above, I.ok.inj, I.ok.has, I.ok.cab, I.ok.hd, I.ok.frames, I.ok.stk, I.ok.exf, I.ok.bs, I.ok.bsz, I.ok.noex, I.ok.exfs, I.ok.funs, I.ok.frf⟩, I.os, I.bare, I.base, I.loc, I.cell, I.free, I.freeC, I.pin, I.hok, I.len⟩
theorem invX' {X : Cx} {E : Value → Shared → Prop} {pins : List (Addr × Obj)} {σ : St} {H : Hp} {s : Shared} (I : Inv { X with xe := E } pins σ H s) : Inv X pins σ H s :=
  ⟨⟨I.ok.mod, I.ok.kind, I.ok.glob, I.ok.blt, I.ok.above, I.ok.inj, I.ok.has, I.ok.cab, I.ok.hd, I.ok.frames, I.ok.stk, I.ok.exf, I.ok.bs, I.ok.bsz, I.ok.noex, I.ok.exfs, I.ok.funs, I.ok.frf⟩, I.os, I.bare, I.base, I.loc, I.cell, I.free, I.freeC, I.pin, I.hok, I.len⟩
def BlkX (B : Cx) (W0 : XK) (u : Value) (s' : Shared) : Prop := ∃ (pins : List (Addr × Obj)) (σ : St) (H : Hp) (s : Shared), Inv B pins σ H s ∧ L2.CX B.prog B.w B.stack H s W0 u s'
abbrev blkx (X : Cx) (s : Shared) (H : Hp) (scope : Scope) (ce : Env) (fp : List Addr) (W0 : XK) : Cx := { X.blk s H scope ce fp with xe := BlkX (X.blk s H scope ce fp) W0 }
theorem note_frame {e : Value} {e1 e2 : Env} (h : e1.frame = e2.frame) : noteFrame e e1 = noteFrame e e2 := by
  unfold noteFrame frameOf
  rw [h]
theorem frames_but {h h' B B' : Heap} : ∀ {l : List Env}, h.FunFrames B l → (∀ b ∈ frs l, h'.get? b = h.get? b) → (∀ b ∈ frs l, B'.get? b = none) → h'.FunFrames B' l
  | [], _, _, _ => trivial
  | env :: l, ⟨hk, ⟨L, o, hf, _, ho, hd⟩, hr⟩, k, n => by
    have m : L ∈ frs (env :: l) := List.mem_filterMap.mpr ⟨env, List.mem_cons_self, hf⟩
    have up : ∀ b ∈ frs l, b ∈ frs (env :: l) := fun b hb => by
      obtain ⟨e, he, q⟩ := List.mem_filterMap.mp hb
      exact List.mem_filterMap.mpr ⟨e, List.mem_cons_of_mem _ he, q⟩
    exact ⟨hk, ⟨L, o, hf, n L m, (k L m).trans ho, hd⟩, frames_but hr (fun b hb => k b (up b hb)) fun b hb => n b (up b hb)⟩
theorem ground_cut {B h : Heap} (st : B.StaysIn h) (fs : List Addr) : ∃ G : Heap, (∀ b o, B.get? b = some o → G.get? b = some o) ∧ (∀ b ∈ fs, G.get? b = h.get? b) ∧ ∀ b o, G.get? b = some o → h.get? b = some o ∧ (b ∉ fs → B.get? b = some o) := by
  obtain ⟨G, yes, no⟩ := restrict h fun b => (B.get? b).isSome || decide (b ∈ fs)
  refine ⟨G, fun b o e => (yes b (by rw [e]; rfl)).trans (st b o e), fun b m => yes b (by rw [decide_eq_true m, Bool.or_true]), fun b o e => ?_⟩
  by_cases p : ((B.get? b).isSome || decide (b ∈ fs)) = true
  · have at_h : h.get? b = some o := (yes b p).symm.trans e
    refine ⟨at_h, fun out => ?_⟩
    rw [decide_eq_false out, Bool.or_false] at p
    cases g : B.get? b with
    | none => rw [g] at p; cases p
    | some o2 => rw [← at_h]; exact (st b o2 g).symm
  · rw [no b (by simpa using p)] at e; cases e
theorem ground_bar (B : Heap) (C : Addr) : ∃ B' : Heap, B'.get? C = none ∧ (∀ b, b ≠ C → B'.get? b = B.get? b) ∧ (∀ b o, B'.get? b = some o → B.get? b = some o ∧ b ≠ C) ∧ ∀ b, B.get? b = none → B'.get? b = none := by
  obtain ⟨B', yes, no⟩ := restrict B fun b => decide (b ≠ C)
  have gone : B'.get? C = none := no C (by simp)
  have rest : ∀ b, b ≠ C → B'.get? b = B.get? b := fun b ne => yes b (by simp [ne])
  refine ⟨B', gone, rest, fun b o e => ?_, fun b e => ?_⟩
  · have ne : b ≠ C := fun z => by subst z; rw [gone] at e; cases e
    exact ⟨(rest b ne).symm.trans e, ne⟩
  · by_cases z : b = C
    · subst z; exact gone
    · exact (rest b z).trans e
theorem lcx_err {X : Cx} {pins pins' : List (Addr × Obj)} {σ σ' : St} {Ha Hc : Hp} {sa sc s' : Shared} {fp : List Addr} {scope : Scope} {ce : Env} {W : WX} {W0 : XK} {u : Value} {Q : Value → Shared → Prop}
    (Ia : Inv X pins σ Ha sa) (loc : ce.locals = sa.heap.objs.size) (frm : ce.frame = X.env.frame) (hst : X.stack = X.env :: X.outer) (hfm : X.env.frame = some X.env.locals) (its : ∀ b ∈ fp, FpOk X pins Ha b)
    (Ic : Inv (X.blk sa Ha scope ce fp) pins' σ' Hc sc) (c : L2.CX X.prog X.w X.stack Hc sc W0 u s') (tk : Takes X W) (hW : ∀ cls d H2, W0 cls d H2 → W cls d σ H2) :
    notedBy (model X.prog X.w) X.A ce (fun x s'' => ∃ m, s''.heap.Ns ce.locals m ∧ ∀ h', Heap.SameBut ce.locals s''.heap h' → wpAny (model X.prog X.w) X.A (passOn "comprehension.variables-let-go" x ce : Sem Value) Q X.xe { s'' with heap := h' }) u s' := by
  obtain ⟨a, B, Hx, cls, d, rfl, flying, okB, ub, free, os, bare, told⟩ := c
  -- the block's dict is younger than the frame's own state, and the call has kept it
  have young : ∀ b o, sa.heap.get? b = some o → b ≠ ce.locals := fun b o e z => by
    have lt := Heap.lt_size e
    rw [z, loc] at lt
    exact Nat.lt_irrefl _ lt
  have noFrame : ce.locals ∉ frs X.stack := fun m => by
    obtain ⟨-, o, at_a, -⟩ := Ia.stack.mem m
    exact young _ o at_a rfl
  obtain ⟨m, ⟨oC, es, ep, at_c, isDict, keys, finds⟩, -⟩ := (show ∃ m, sc.heap.Ns ce.locals m ∧ _ from Ic.loc)
  have inB : B.get? ce.locals = some oC := ub.keep _ _ at_c Ic.free noFrame
  have unC : Hx ce.locals = none := ub.free _ _ at_c Ic.free
  have apart : ∀ b, B.get? b = none → b ≠ ce.locals := fun b e z => by subst z; rw [inB] at e; cases e
  unfold notedBy
  rw [note_frame frm]
  rw [hst] at flying
  refine HandSPX.looks_onZ Zc.steady (Ia.ok.frames.trans (congrArg some hst)) hfm flying fun h1 held up1 => ?_
  obtain ⟨stays, noA, frames, oe, vs, T, oT, ts, at_a, zc, fields, tr, noT, neT, at_T, fieldsT, flight⟩ := held
  refine ⟨m, ⟨oC, es, ep, stays _ _ inB, isDict, keys, finds⟩, fun h2 same => ?_⟩
  -- the block's names are let go: the ground is the same but for the block's dict
  obtain ⟨B', gone, rest, sub, none'⟩ := ground_bar B ce.locals
  have inFrs : ∀ b, b ∈ frs (X.env :: X.outer) → B.get? b = none := fun b mb => (frames.mem mb).1
  have held2 : HandSPX.HeldZ B' (X.env :: X.outer) a (Zc cls d) X.env.locals h2 := by
    refine ⟨fun b o e => (same.2 b (sub b o e).2).trans (stays b o (sub b o e).1), none' a noA, frames_but frames (fun b mb => same.2 b (apart b (inFrs b mb))) fun b mb => none' b (inFrs b mb), ?_⟩
    exact ⟨oe, vs, T, oT, ts, (same.2 a (apart a noA)).trans at_a, zc, fields, tr, none' T noT, neT, (same.2 T (apart T noT)).trans at_T, fieldsT, flight⟩
  unfold passOn
  refine wpAny_bind (wpAny_field ((same.2 a (apart a noA)).trans at_a) fields tr ?_)
  have notNone : ¬ ((Value.ref T == Value.none) = true) := by simp
  rw [if_neg notNone, frm, hfm]
  refine wpAny_bind (HandSPX.setFlight_onZ (s := { s' with heap := h2 }) held2 fun h3 held3 up3 => wpAny_throw (tk _ _ ?_))
  obtain ⟨G, fromB, fromF, both⟩ := ground_cut held3.1 (frs X.stack)
  -- a frame of the callers, from the call on
  have frame : ∀ b o, sc.heap.get? b = some o → b ∈ frs X.stack → ∃ sl, G.get? b = some { o with slots := sl } := fun b o e mb => by
    obtain ⟨sl1, e1⟩ := ub.slot b o e mb
    have mb' : b ∈ frs (X.env :: X.outer) := hst ▸ mb
    obtain ⟨-, o2, e2, plain⟩ := flying.2.2.1.mem mb'
    obtain rfl : _ = o2 := Option.some.inj (e1.symm.trans e2)
    obtain ⟨sl2, e3⟩ := up1 b _ e1 plain
    obtain ⟨sl3, e4⟩ := up3 b _ ((same.2 b (apart b (inFrs b mb'))).trans e3) plain
    exact ⟨sl3, (fromF b mb).trans e4⟩
  have blockDid : Un (frs X.stack) fp Ha Hc sa.heap sc.heap := Ic.base
  have un : Un (frs X.stack) fp Ha Hx sa.heap G := {
    keep := fun b o e n mb mx => fromB b o ((rest b (young b o e)).trans (ub.keep b o (blockDid.keep b o e n mb mx) (blockDid.free b o e n mx) mb))
    slot := fun b o e n mb mx => by
      obtain ⟨_, e1⟩ := blockDid.slot b o e n mb mx
      obtain ⟨sl, e2⟩ := frame b _ e1 mb
      exact ⟨sl, e2⟩
    free := fun b o e n mx => by
      obtain ⟨_, e1⟩ := blockDid.any e n mx
      exact ub.free b _ e1 (blockDid.free b o e n mx)
    there := fun b o e mx => by
      obtain ⟨o1, e1⟩ := blockDid.there b o e mx
      by_cases mb : b ∈ frs X.stack
      · obtain ⟨_, e2⟩ := frame b o1 e1 mb
        exact ⟨_, e2⟩
      · obtain ⟨o2, e2⟩ := ub.there b o1 e1 mb
        exact ⟨o2, fromB b o2 ((rest b (young b o e)).trans e2)⟩
    tups := fun b xs e => ub.tups b xs (blockDid.tups b xs e)
    frzs := fun b o w e => ub.frzs b o w (blockDid.frzs b o w e)
    tbls := fun b ps e => by
      obtain ⟨x1, e1⟩ := blockDid.tbls b ps e
      obtain ⟨x2, e2⟩ := ub.tbls b _ e1
      exact ⟨x1 ++ x2, by rw [e2, Array.append_assoc]⟩ }
  have okG : HOk X.prog X.w Hx G := fun b w e => by
    refine (okB b w e).stay (fun c v tied g => fromB c v ((rest c fun z => ?_).trans g)) (fun _ g => g) fun _ _ g => g
    subst z
    cases tied with
    | inl z => rw [← z, unC] at e; cases e
    | inr z => rw [unC] at z; cases z
  have now : Inv X pins σ Hx { sa with heap := G, gens := s'.gens, drawn := s'.drawn, toks := s'.toks } := Ia.call (ch := fp) un okG bare fun b mb => by
    obtain ⟨-, u1, -, u2, u3, u4⟩ := its b mb
    exact ⟨u2, u1, u3, u4⟩
  exact ⟨a, B', _, pins, σ, Hx, cls, d, rfl, now, fun b o e out => (both b o e).2 out, Heap.UpToSlots.of_keeps fun b o e => (both b o e).1, .inr (.inr (hst ▸ held3)), free, os.trans Ic.os, bare, hW _ _ _ told⟩
theorem clo_nil {cells : List (Str × Addr)} : ∀ {names : List (Str × NameKind)}, (∀ y ∈ names, y.2 ≠ .free) → ∀ acc, cloFrom cells names acc = acc
  | [], _, _ => rfl
  | (n, k) :: r, h, acc => by
    unfold cloFrom
    rw [if_neg (by simpa using h (n, k) List.mem_cons_self)]
    exact clo_nil (fun y hy => h y (List.mem_cons_of_mem _ hy)) acc
theorem relabel_id {scope : Scope} {env : Env} (h : ∀ y ∈ scope.names, y.2 ≠ .free) : relabel scope env = scope := by
  unfold relabel
  have : (scope.names.map fun (n, k) => if (k == NameKind.free && env.scope.kind == .function && env.kindOf n == some .cell) then (n, NameKind.cell) else (n, k)) = scope.names := by
    refine (List.map_congr_left fun y hy => ?_).trans (List.map_id _)
    obtain ⟨n, k⟩ := y
    have hk : (k == NameKind.free) = false := by simpa using h (n, k) hy
    simp [hk]
  rw [this]
section
variable {X : Cx} {pins : List (Addr × Obj)} {σ : St} {Ha : Hp} {sa : Shared} {scope : Scope} {ce : Env} {fp : List Addr}
structure InBlk (X : Cx) (pins : List (Addr × Obj)) (σ : St) (Ha : Hp) (sa : Shared) (ce : Env) (fp : List Addr) : Prop where
  outer : Inv X pins σ Ha sa
  loc : ce.locals = sa.heap.objs.size
  frm : ce.frame = X.env.frame
  its : ∀ b ∈ fp, FpOk X pins Ha b
theorem InBlk.back (K : InBlk X pins σ Ha sa ce fp) {ps : List (Addr × Obj)} {τ : St} {Hb : Hp} {sb : Shared} (J : Inv (X.blk sa Ha scope ce fp) ps τ Hb sb) : Inv X pins σ Hb sb :=
  K.outer.call' (ch := fp) J.os J.base J.hok J.bare fun b m => by
    obtain ⟨-, u1, -, u2, u3, u4⟩ := K.its b m
    exact ⟨u2, u1, u3, u4⟩
theorem InBlk.own {ps : List (Addr × Obj)} {τ : St} {Hb : Hp} {sb : Shared} (J : Inv (X.blk sa Ha scope ce fp) ps τ Hb sb) (hp : ps = []) (hf : ∀ b ∈ fp, Hb b = none) : ∀ b ∈ fp, FpOk (X.blk sa Ha scope ce fp) [] Hb b := by
  subst hp
  intro b m
  obtain ⟨u1, u2⟩ := J.ok.exf b m
  exact ⟨hf b m, u1, J.ok.exfs b m, .inl m, fun x c e => u2 x c e, fun p z => by cases z⟩
theorem InBlk.leave (K : InBlk X pins σ Ha sa ce fp) {ps : List (Addr × Obj)} {τ : St} {Hb : Hp} {sb : Shared} (J : Inv (X.blk sa Ha scope ce fp) ps τ Hb sb) {D : Addr} {Q : VK} (q : Q (.ref D) Hb) :
    ∃ m, sb.heap.Ns ce.locals m ∧ ∀ h', Heap.SameBut ce.locals sb.heap h' → EP X pins σ Q (.ref D) { sb with heap := h' } := by
  have away := K.outer.fpOk (b := ce.locals) (Nat.le_of_eq K.loc.symm) (show Hb ce.locals = none from J.free)
  obtain ⟨m, names, -⟩ := J.loc
  refine ⟨m, names, fun h' same => ⟨.ref D, Hb, ?_, rfl, q⟩⟩
  exact (K.back J).turned (t' := sb.toks) (fun b o ne e => (same.2 b ne).trans e) away.1 away.2.1 away.2.2.2.1 away.2.2.2.2.1 away.2.2.2.2.2
def Ahead (X : Cx) (σ : St) (Ha : Hp) (sa : Shared) (scope : Scope) (ce : Env) (fp : List Addr) (vs : List Nat) (tn : Nat → Heap → Prop) (V : Nat → Nat → Hp → Prop) (n : Nat) (sb : Shared) : Prop :=
  ∃ i Hb, Inv (X.blk sa Ha scope ce fp) [] (wipe σ vs) Hb sb ∧ tn i sb.heap ∧ (∀ b ∈ fp, Hb b = none) ∧ V i n Hb
theorem ahead_next {vs : List Nat} {tn : Nat → Heap → Prop} {V : Nat → Nat → Hp → Prop} {tg : Expr} {J : It} {it : Addr} {n i : Nat} {τ : St} {Hb : Hp} {s7 sb : Shared} (T : Turn X.prog X.w X.K tg J fp it tn) (e : wipe τ vs = wipe σ vs) (at7 : tn (i + 1) s7.heap) (M : Inv (X.blk sa Ha scope ce fp) ([] ++ pinsAt fp s7.heap) τ Hb sb) (v : ∃ m, m < n ∧ V (i + 1) m Hb) :
    ∃ m, m < n ∧ Ahead X σ Ha sa scope ce fp vs tn V m sb := by
  obtain ⟨m, lt, v⟩ := v
  have still : ∀ b ∈ fp, ∀ o, s7.heap.get? b = some o → sb.heap.get? b = some o ∧ Hb b = none := fun b mb o g => by
    have z := M.pin (b, o) (List.mem_append_right _ (List.mem_append_right _ (mem_pinsAt mb g)))
    exact ⟨z.1, z.2.1⟩
  have len : (wipe σ vs).length = τ.length := by rw [← e]; exact wipe_length τ vs
  have knows : ∀ (j : Nat) (x : L2.V), (wipe σ vs)[j]? = some (some x) → τ[j]? = some (some x) := fun j x g => by
    rw [← e] at g
    exact (wipe_some g).1
  refine ⟨m, lt, i + 1, Hb, (M.unpinned (pins := [])).weak len knows, T.keep _ _ _ at7 fun b mb o g => (still b mb o g).1, fun b mb => ?_, v⟩
  obtain ⟨o, g, -⟩ := T.obj _ _ at7 b mb
  exact (still b mb o g).2
end
theorem loop_x {X : Cx} {W : WX} {W0 : XK} {elt tg iter : Expr} {ifs : List Expr} {scope : Scope} {vs : List Nat} {pos : Pos} {g : TG} {tt : TT} {te : TE} {pins : List (Addr × Obj)} {σ : St} {Ha : Hp} {sa s4 : Shared} {ce : Env} {fp : List Addr} {it D : Addr} {J : It} {tn : Nat → Heap → Prop} {V : Nat → Nat → Hp → Prop} {Q : VK} {m0 : Nat}
    (hc : X.calm = true) (hst : X.stack = X.env :: X.outer) (hfm : X.env.frame = some X.env.locals) (tk : Takes X W) (hW : ∀ cls d σ H, W0 cls d H → W cls d σ H) (K : InBlk X pins σ Ha sa ce fp) (T : Turn X.prog X.w X.K tg J fp it tn)
    (pg : PG (X.blk sa Ha scope ce fp) tg g) (pt : PTs (X.blk sa Ha scope ce fp) ifs tt) (pe : PE (blkx X sa Ha scope ce fp W0) elt te)
    (turn : ∀ i m H, V i m H → (J.stop i H ∧ Q (.ref D) H) ∨ (J.go i H ∧ ∃ Nx : Hp → Prop, (∀ H', Nx H' → ∃ m', m' < m ∧ V (i + 1) m' H') ∧ ∀ x H', J.yld i H x H' → g x (wipe σ vs) H' fun σ2 H2 => wipe σ2 vs = wipe σ vs ∧ tt σ2 H2 fun b H3 =>
      if b = true then te σ2 H3 fun y H4 => ∃ acc, H4 D = some (.lst acc) ∧ acc.length < sizeLine ∧ Nx (upd H4 D (.lst (acc ++ [y]))) else Nx H3))
    (R : Result → Shared → Prop) (ok : ∀ sb, (∃ m, sb.heap.Ns ce.locals m ∧ ∀ h', Heap.SameBut ce.locals sb.heap h' → EP X pins σ Q (.ref D) { sb with heap := h' }) → R (.ok .next) sb)
    (bad : ∀ x sb, (∃ m, sb.heap.Ns ce.locals m ∧ ∀ h', Heap.SameBut ce.locals sb.heap h' → wpAny (model X.prog X.w) X.A (passOn "comprehension.variables-let-go" x ce : Sem Value) (EP X pins σ Q) X.xe { sb with heap := h' }) → R (.error x) sb)
    (start : Ahead X σ Ha sa scope ce fp vs tn V m0 s4) :
    codeAny (model X.prog X.w) X.A (.compLoop (.ListComp elt [⟨tg, iter, ifs, 0⟩] scope pos) 0 (.ref it) (.ref D) ce) R s4 := by
  refine compLoop_any (Ahead X σ Ha sa scope ce fp vs tn V) (fun n s5 ⟨i, H5, I5, at5, un5, v5⟩ => ?_) m0 start
  have mine := InBlk.own I5 rfl un5
  cases turn i n H5 v5 with
  | inl stop =>
    refine thnF (T.done (X.blk sa Ha scope ce fp) rfl rfl rfl hc i [] s5 _ H5 (fun _ _ => False) I5 mine at5 stop.1) ?_
    rintro _ s6 ⟨rfl, I6⟩
    exact ok s6 (K.leave I6 stop.2)
  | inr more =>
    obtain ⟨go, Nx, nx, each⟩ := more
    refine thnF (T.item (X.blk sa Ha scope ce fp) rfl rfl rfl hc i [] s5 _ H5 (fun _ _ => False) I5 mine at5 go) ?_
    rintro _ s6 ⟨u, rfl, owned⟩
    refine thnF owned ?_
    rintro _ s7 ⟨x, H7, I7, rx, yx, at7, un7⟩
    have pinned := I7.pinned (InBlk.own I7 rfl un7) (T.obj _ _ at7)
    refine thnF (pg.run _ s7 _ H7 x u _ pinned rx (each x H7 yx)) ?_
    rintro _ s8 ⟨τ, H8, I8, wiped, tests⟩
    refine thnF (pt.run _ s8 τ H8 _ I8 tests) ?_
    rintro passed s9 ⟨H9, I9, after⟩
    have goOn : ∀ {sb : Shared} {Hb : Hp}, Inv (X.blk sa Ha scope ce fp) ([] ++ pinsAt fp s7.heap) τ Hb sb → Nx Hb → ∃ m, m < n ∧ Ahead X σ Ha sa scope ce fp vs tn V m sb := fun M z => ahead_next T wiped at7 M (nx _ z)
    cases passed with
    | false =>
      rw [if_neg (by decide)] at after ⊢
      exact goOn I9 after
    | true =>
      rw [if_pos rfl] at after ⊢
      refine wpAny_mono (pe.run _ s9 τ H9 _ (invX _ I9) after) ?_ ?_
      · rintro z s10 ⟨y, H10, I10, ry, acc, atD, few, z⟩
        exact app_ok (X := X.blk sa Ha scope ce fp) (invX' I10) atD few ry fun _ I11 => goOn I11 z
      · rintro u s10 ⟨ps, τ', Hc, sc, Ic, out⟩
        exact wpAny_mono (lcx_err (Q := EP X pins σ Q) K.outer K.loc K.frm hst hfm K.its Ic out tk fun cls d H2 w => hW cls d σ H2 w) (fun _ sb w => bad _ sb w) fun _ sb w => bad _ sb w
theorem pe_lcx {X : Cx} {W : WX} {W0 : XK} {elt tg iter : Expr} {ifs : List Expr} {scope : Scope} {own : List (Str × Nat)} {pos : Pos} {wi : TI} {g : TG} {tt : TT} {te : TE} (hc : X.calm = true) (hN : X.N.Nodup) (hst : X.stack = X.env :: X.outer) (hfm : X.env.frame = some X.env.locals) (tk : Takes X W) (hW : ∀ cls d σ H, W0 cls d H → W cls d σ H)
    (hi : PI X tg iter wi) (ok : BlkOk X.N X.env.scope scope own) (hfree : ∀ y ∈ scope.names, y.2 ≠ .free)
    (hg : ∀ (s : Shared) (H : Hp) (C : Addr) (cl : List (Str × Addr)) (fp : List Addr), PG (X.blk s H scope (compEnvC scope cl C X.env) fp) tg g) (ht : ∀ (s : Shared) (H : Hp) (C : Addr) (cl : List (Str × Addr)) (fp : List Addr), PTs (X.blk s H scope (compEnvC scope cl C X.env) fp) ifs tt)
    (he : ∀ (s : Shared) (H : Hp) (C : Addr) (cl : List (Str × Addr)) (fp : List Addr), PE (blkx X s H scope (compEnvC scope cl C X.env) fp W0) elt te) (hs : ∀ x, foldedSetIterable iter X.env x = pure x := by intro _; rfl) :
    PE X (.ListComp elt [⟨tg, iter, ifs, 0⟩] scope pos) (tLc wi g tt te (own.map (·.2))) := by
  constructor
  intro pins s σ H Q I wish
  rw [eval_ListComp]
  refine wpAny_comprehension rfl hs hfree ok.kind (fun y hy e => e ▸ ok.uniq y hy) (thn (hi.run pins s σ H _ I wish) fun _ s1 iters => thn iters ?_)
  rintro _ s2 ⟨it, fp, tn, J, H2, rfl, I2, T, at2, mine, q⟩
  refine wpAny_newObj_type (newEnv_comp ?_) (Nat.zero_le _)
  -- the new list D
  obtain ⟨D, hD⟩ : ∃ D, D = s2.heap.objs.size := ⟨_, rfl⟩
  obtain ⟨V, ⟨m0, v0⟩, turn⟩ := q D (I2.hok.fresh (Nat.le_of_eq hD.symm))
  rw [← hD]
  obtain ⟨sa, hsa⟩ : ∃ sa : Shared, sa = { s2 with heap := s2.heap.push { cls := .type "list", data := .seq ([] : List Value).toArray } } := ⟨_, rfl⟩
  have push : ∀ b o, s2.heap.get? b = some o → sa.heap.get? b = some o := fun b o e => by rw [hsa]; exact Heap.get?_push_of_some _ e
  have Ia : Inv X pins σ (upd H2 D (.lst [])) sa := by
    rw [hsa]
    exact I2.laid (t' := s2.toks) (fun b o e => Heap.get?_push_of_some _ e) (Nat.le_of_eq hD.symm) ⟨Nat.zero_le _, [], 0, .nil, by rw [hD]; exact Heap.get?_push_size _ rfl⟩
  have older : ∀ b ∈ fp, b < D ∧ D < sa.heap.objs.size := fun b mb => by
    obtain ⟨o, e, -⟩ := T.obj _ _ at2 b mb
    have := Heap.lt_size e
    rw [hsa, hD]
    exact ⟨this, by rw [Heap.size_push]; exact Nat.lt_succ_self _⟩
  have mineA : ∀ b ∈ fp, FpOk X pins (upd H2 D (.lst [])) b := fun b mb => by
    have ne : b ≠ D := Nat.ne_of_lt (older b mb).1
    exact ⟨(upd_ne ne).trans (mine b mb).1, (mine b mb).2⟩
  have blk := block_start Ia ok hN fun b mb => ⟨mineA b mb, Nat.lt_trans (older b mb).1 (older b mb).2⟩
  rw [clo_nil hfree] at blk
  obtain ⟨ce, hce⟩ : ∃ ce, ce = compEnvC scope (cellsFrom (sa.heap.objs.size + 1) scope.names []) sa.heap.objs.size X.env := ⟨_, rfl⟩
  have K : InBlk X pins σ (upd H2 D (.lst [])) sa ce fp := ⟨Ia, by rw [hce]; rfl, by rw [hce]; rfl, mineA⟩
  have same : ∀ B, ({ newEnv scope sa.heap.objs.size X.env.globals (cellsFrom (sa.heap.objs.size + 1) scope.names []) X.env.qual none .none (some X.env) B with scope := scope } : Env) = ce := fun B => by
    rw [hce]
    unfold compEnvC
    rw [relabel_id hfree]
    rfl
  have kept : ∀ b o, s2.heap.get? b = some o → (pushCells (sa.heap.push { cls := .type "dict", data := .dict #[] }) scope.names).get? b = some o := fun b o e => pushCells_keeps _ _ _ _ (Heap.get?_push_of_some _ (push b o e))
  have first : Ahead X σ (upd H2 D (.lst [])) sa scope ce fp (own.map (·.2)) tn V m0 { sa with heap := pushCells (sa.heap.push { cls := .type "dict", data := .dict #[] }) scope.names } := by
    rw [hce]
    exact ⟨0, _, blk, T.keep _ _ _ at2 fun b _ o e => kept b o e, fun b mb => (mineA b mb).1, v0⟩
  have run := fun R ok' bad => loop_x (elt := elt) (iter := iter) (ifs := ifs) (pos := pos) hc hst hfm tk hW K T (by rw [hce]; exact hg _ _ _ _ _) (by rw [hce]; exact ht _ _ _ _ _) (by rw [hce]; exact he _ _ _ _ _) turn R ok' bad first
  have at4 : tn 0 (pushCells (sa.heap.push { cls := .type "dict", data := .dict #[] }) scope.names) := T.keep _ _ _ at2 fun b _ o e => kept b o e
  have whole : ∀ R : Result → Shared → Prop, (∀ sb, _ → R (.ok .next) sb) → (∀ x sb, _ → R (.error x) sb) → codeAny (model X.prog X.w) X.A (.compStart (.ListComp elt [⟨tg, iter, ifs, 0⟩] scope pos) 0 (.ref it) (.ref D) ce) R { sa with heap := pushCells (sa.heap.push { cls := .type "dict", data := .dict #[] }) scope.names } := fun R ok' bad => codeAny_compStart_list (run R ok' bad) (T.self X.A 0 _ _ _ at4 (run R ok' bad))
  rw [← same builtinsNs, hsa] at whole
  exact whole _ (fun _ z => z) fun _ _ z => z
variable [Tabz]
abbrev Gb (G : Gx) (W0 : XK) : Gx := ⟨fun cls d _ H => W0 cls d H, G.cA, false⟩
def lcEX (g : D → Rho → Option Rho) (tt : M Bool) (fe : M D) (vs : List Nat) : List D → Rho → Res (List D)
  | [], ρ => .ok ([], ρ)
  | d :: ds, ρ => match g d (wipeR ρ vs) with
    | none => .bad
    | some ρ1 => match tt ρ1 with
      | .ok (true, ρ2) => (match fe ρ2 with
        | .ok (x, ρ3) => (match lcEX g tt fe vs ds ρ3 with
          | .ok (xs, ρ4) => .ok (x :: xs, ρ4)
          | .exc c ρ4 => .exc c ρ4
          | .bad => .bad)
        | .exc c ρ3 => .exc c ρ3
        | .bad => .bad)
      | .ok (false, ρ2) => lcEX g tt fe vs ds ρ2
      | _ => .bad
def fLcX (fi : M (List D)) (g : D → Rho → Option Rho) (tt : M Bool) (fe : M D) (vs : List Nat) : M (List D) := bnd fi fun ds ρ1 => if small ds.length then (match lcEX g tt fe vs ds ρ1 with
    | .ok (xs, ρ2) => .ok (xs, rest ρ2 ρ1 vs)
    | .exc c ρ2 => .exc c (rest ρ2 ρ1 vs)
    | .bad => .bad) else .bad
def Cns (acc : List D) (r er : Res (List D)) : Prop := match r with
  | .ok (ys, ρ2) => er = .ok (acc ++ ys, ρ2)
  | .exc c ρ2 => er = .exc c ρ2
  | .bad => False
section
variable {X : Cx} {G : Gx} {e a b : Expr} {es : List Expr} {f g : M D} {fs : M (List D)} {pos : Pos} {tg : Expr}
theorem lcX_run {W0 : XK} {fi : M (List D)} {is vs : List Nat} {g : D → Rho → Option Rho} {tt : M Bool} {fe : M D} (hgq : G.q = false) (hs : ∀ i ∈ is, i ∈ vs) (hG : ∀ cls d σ H, G.W cls d σ H → W0 cls d H) (σ : St) (H : Hp) (Q : VK) (h : tL G (fLcX fi g tt fe vs) σ H Q) :
    tLc (tI G fi) (tGt is g) (tT (G0 G) tt) (tE (Gb G W0) fe) vs σ H Q := by
  obtain ⟨Hf, ρ, rp, af⟩ := h
  refine (stepLI (k := fi) rp af).mono fun J H1 ⟨ds, Hf1, ρ1, n1, hJ, af1⟩ => ?_
  intro D0 hD
  cases hsm : small ds.length with
  | false => simp only [hsm] at af1; exact False.elim af1
  | true =>
    simp only [hsm, if_true] at af1
    generalize her : lcEX g tt fe vs ds ρ1 = er at af1
    have c0 : Cns [] er er := by
      cases er with
      | ok x => exact rfl
      | exc c ρ2 => exact rfl
      | bad => exact False.elim af1
    have rp1 := n1.rp
    have hDf : Hf1 D0 = none := rp1.sub.free hD
    have w1 := rp1.wipe vs
    have noD : ¬ OwnA (upd H1 D0 (.lst [])) (L2.wipe σ vs) (wipeR ρ1 vs) D0 := w1.rp.notOwnU hD
    refine ⟨fun i m Hc => m = ds.length - i ∧ i ≤ ds.length ∧ ∃ Hfc ρc acc accv r, Nxt false (L2.wipe σ vs) (wipeR ρ1 vs) Hf1 H1 (L2.wipe σ vs) (wipeR ρc vs) Hfc Hc ∧ Hc D0 = some (.lst accv) ∧ Hfc D0 = none ∧ ¬ OwnA Hc (L2.wipe σ vs) (wipeR ρc vs) D0 ∧
        RepA Hfc accv acc ∧ acc.length ≤ i ∧ lcEX g tt fe vs (ds.drop i) ρc = r ∧ Cns acc r er,
      ⟨ds.length, by simp, Nat.zero_le _, Hf1, ρ1, [], [], er, w1.rp.newO hD, upd_same, hDf, noD, .nil, Nat.le_refl _, her, c0⟩, ?_⟩
    rintro i m Hc ⟨rfl, hi, Hfc, ρc, acc, accv, r, n, eD, fD, oD, ra, hl, el, ex⟩
    have it := hJ i Hfc Hc (L2.wipe σ vs) (wipeR ρc vs) (w1.trans n)
    by_cases hlt : i < ds.length
    · have ed : ds[i]? = some ds[i] := List.getElem?_eq_getElem hlt
      have edr : ds.drop i = ds[i] :: ds.drop (i + 1) := List.drop_eq_getElem_cons hlt
      obtain ⟨hgo, hy⟩ := it.1 _ ed
      rw [edr] at el
      unfold lcEX at el
      refine .inr ⟨hgo, fun H' => ∃ Hfc ρc acc accv r, Nxt false (L2.wipe σ vs) (wipeR ρ1 vs) Hf1 H1 (L2.wipe σ vs) (wipeR ρc vs) Hfc H' ∧ H' D0 = some (.lst accv) ∧ Hfc D0 = none ∧ ¬ OwnA H' (L2.wipe σ vs) (wipeR ρc vs) D0 ∧
        RepA Hfc accv acc ∧ acc.length ≤ i + 1 ∧ lcEX g tt fe vs (ds.drop (i + 1)) ρc = r ∧ Cns acc r er, fun H' q => ⟨ds.length - (i + 1), by omega, rfl, hlt, q⟩, fun x H' yx => ?_⟩
      obtain ⟨Hfy, ny, ry⟩ := hy x H' yx
      have carry : ∀ {σ2 : St} {ρ2' : Rho} {Hf2 H2 : Hp}, Nxt false (L2.wipe σ vs) (wipeR ρc vs) Hfc Hc σ2 ρ2' Hf2 H2 → H2 D0 = some (.lst accv) ∧ Hf2 D0 = none ∧ ¬ OwnA H2 σ2 ρ2' D0 := fun nn => by
        refine ⟨nn.keep _ _ eD NT.lst oD, (nn.fr D0 fD).elim id fun q => q.elim (fun z => ?_) fun z => absurd z oD, fun z => (nn.os D0 z).elim oD fun w => ?_⟩
        · rw [eD] at z; cases z
        · rw [eD] at w; cases w
      cases eg : g ds[i] (wipeR ρc vs) with
      | none => simp only [eg] at el; subst el; exact False.elim ex
      | some ρg =>
        simp only [eg] at el
        refine ⟨Hfy, wipeR ρc vs, _, ρg, ny.rp, ry, eg, fun σ2 n2 o2 => ⟨?_, ?_⟩⟩
        · rw [o2.wipe hs, wipe_wipe]
        · have n3 := (Nxt.any ny).trans n2
          have ew : L2.wipe σ2 vs = L2.wipe σ vs := by rw [o2.wipe hs, wipe_wipe]
          refine ⟨Hfy, ρg, n3.rp, ?_⟩
          cases et : tt ρg with
          | exc c _ => simp only [et] at el; subst el; exact False.elim ex
          | bad => simp only [et] at el; subst el; exact False.elim ex
          | ok z =>
            obtain ⟨bt, ρt⟩ := z
            simp only [et] at el
            intro bb Hf4 H4 n4 eb
            subst eb
            have n5 := n3.trans n4
            cases bb with
            | false =>
              dsimp only at el
              have n6 := n5.trans (n5.rp.wipe vs)
              rw [ew] at n6
              obtain ⟨c1, c2, c3⟩ := carry n6
              exact ⟨Hf4, ρt, acc, accv, r, n.trans n6, c1, c2, c3, repA_same n6.sub ra, by omega, el, ex⟩
            | true =>
              dsimp only at el
              refine ⟨Hf4, ρt, n5.rp, ?_⟩
              cases ee : fe ρt with
              | bad => simp only [ee] at el; subst el; exact False.elim ex
              | exc c ρe =>
                simp only [ee] at el
                subst el
                have ex : er = .exc c ρe := ex
                subst ex
                intro Hf7 H7 n7
                have n8 := n5.trans n7
                have n9 := n8.trans (n8.rp.wipe vs)
                rw [ew] at n9
                have nr := Nxt.rest rp1 (n.trans n9)
                rw [← hgq] at nr
                exact hG _ _ _ _ (af1 Hf7 H7 nr)
              | ok z2 =>
                obtain ⟨y, ρe⟩ := z2
                simp only [ee] at el
                intro v Hf7 H7 n7 rv
                have n8 := n5.trans n7
                obtain ⟨c1, c2, c3⟩ := carry n8
                have n9 := n8.trans (n8.rp.wipe vs)
                rw [ew] at n9
                obtain ⟨d1, d2, d3⟩ := carry n9
                refine ⟨accv, c1, ?_, ?_⟩
                · rw [repA_len ra]
                  exact Nat.lt_of_le_of_lt hl (Nat.lt_trans hlt (small_lt hsm))
                · generalize e5 : lcEX g tt fe vs (ds.drop (i + 1)) ρe = r5 at el
                  refine ⟨Hf7, ρe, acc ++ [y], accv ++ [v], r5, ((n.trans n9).updNew d1 hD d2 d3).1, upd_same, d2, ((n.trans n9).updNew d1 hD d2 d3).2, repA_append (repA_same n9.sub ra) (.cons rv .nil), ?_, e5, ?_⟩
                  · rw [List.length_append, List.length_singleton]; omega
                  · cases r5 with
                    | bad => simp only at el; subst el; exact False.elim ex
                    | exc c ρ5 => simp only at el; subst el; exact ex
                    | ok z3 =>
                      obtain ⟨ys2, ρ5⟩ := z3
                      simp only at el
                      subst el
                      have ex : er = .ok (acc ++ y :: ys2, ρ5) := ex
                      show er = .ok (acc ++ [y] ++ ys2, ρ5)
                      rw [ex, List.append_assoc]
                      rfl
    · have ei : i = ds.length := by omega
      subst ei
      rw [List.drop_length] at el
      unfold lcEX at el
      subst el
      have ex : er = .ok (acc ++ [], ρc) := ex
      rw [List.append_nil] at ex
      subst ex
      refine .inl ⟨it.2 (Nat.le_refl _), ?_⟩
      have nr := Nxt.rest rp1 n
      rw [← hgq] at nr
      refine af1 D0 accv Hfc Hc nr (.inl hD) fD (fun z => ?_) eD ra
      exact ((rest_weak rp1 n.sub n.rp).os D0 z).elim oD fun y => by rw [eD] at y; cases y
theorem fl_lcX {W0 : XK} {elt iter : Expr} {ifs : List Expr} {scope : Scope} {own : List (Str × Nat)} {fi : M (List D)} {is : List Nat} {g : D → Rho → Option Rho} {tt : M Bool} {fe : M D} (hc : X.calm = true) (hN : X.N.Nodup) (ok : BlkOk X.N X.env.scope scope own) (hfree : scope.names.all (fun y => y.2 != .free) = true) (his : ∀ i ∈ is, i ∈ own.map (·.2)) (hst : X.stack = X.env :: X.outer) (hfm : X.env.frame = some X.env.locals) (tk : Takes X G.W) (hG : ∀ cls d σ H, G.W cls d σ H → W0 cls d H) (hG' : ∀ cls d σ H, W0 cls d H → G.W cls d σ H) (hi : PI X tg iter (tI G fi))
    (hg : ∀ (s : Shared) (H : Hp) (C : Addr) (cl : List (Str × Addr)) (fp : List Addr), PG (X.blk s H scope (compEnvC scope cl C X.env) fp) tg (tGt is g)) (ht : ∀ (s : Shared) (H : Hp) (C : Addr) (cl : List (Str × Addr)) (fp : List Addr), PTs (X.blk s H scope (compEnvC scope cl C X.env) fp) ifs (tT (G0 G) tt))
    (he : ∀ (s : Shared) (H : Hp) (C : Addr) (cl : List (Str × Addr)) (fp : List Addr), PE (blkx X s H scope (compEnvC scope cl C X.env) fp W0) elt (tE (Gb G W0) fe)) (hs : ∀ x, foldedSetIterable iter X.env x = pure x := by intro _; rfl) (hgq : G.q = false := by rfl) :
    PE X (.ListComp elt [⟨tg, iter, ifs, 0⟩] scope pos) (tL G (fLcX fi g tt fe (own.map (·.2)))) := (pe_lcx hc hN hst hfm tk hG' hi ok (fun y hy z => by
      have := List.all_eq_true.mp hfree y hy
      rw [z] at this
      exact absurd this (by decide)) hg ht he hs).imp (lcX_run hgq his hG)
theorem fe_calX {s : Shared} {H : Hp} {scope : Scope} {ce : Env} {fp : List Addr} {W0 : XK} {x : Str} {p : Pos} {k n : Nat} {ps : List Str} {gg : Rho → Fl} {m : Nat} (C : Cal X.prog X.w X.K X.mg X.base x k ps (spP G.cA m (runP n gg m))) (hr : Room k X.A) (hg : Gl (blkx X s H scope ce fp W0) x) (ha : PA (blkx X s H scope ce fp W0) (e :: es) (tA (Gb G W0) fs)) (hdb : (x == ("__debug__" : Str)) = false := by decide)
    (he : starEach (e :: es) ce = (false, eval e ce) :: starEach es ce := by rfl) (hpl : (backTo pos (starEach es ce)).any (·.1) = false := by rfl) : PE (blkx X s H scope ce fp W0) (.Call (.Name x p) (e :: es) [] pos) (tE (Gb G W0) (fCall (runP n gg m) fs)) := by
  obtain ⟨f, fd, F, hm, hk, hb⟩ := C
  exact (pe_callS (X := blkx X s H scope ce fp W0) F hr hg hm hk hb (fun σ pins H s e s' I c => ⟨pins, σ, H, s, invX' I, c⟩) ha hdb he hpl).imp (call_run (G := Gb G W0) rfl runP_len)
end
end Fx
namespace Fx
open PySem L2
variable [Tabz]
@[simp] def isS : Option PyData → Bool
  | some (.str _) => true
  | _ => false
@[simp] def fBS (o : PyData → List PyData → Option PyData) (A : Opd) (As : List Opd) : M PyData := fun ρ => (bnd A.go fun a ρ => if isS (A.at a ρ) then bnd (goAll As) (fun as => finM A a As as o) ρ else .bad) ρ
@[simp] def fBSL (o : PyData → List PyData → Option (List PyData)) (A : Opd) (As : List Opd) : M (List PyData) := fun ρ => (bnd A.go fun a ρ => if isS (A.at a ρ) then bnd (goAll As) (fun as => finM A a As as o) ρ else .bad) ρ
section
variable {X : Cx} {G : Gx} {pos : Pos} {a e : Expr} {es : List Expr} {A : Opd} {As : List Opd}
theorem rd_BS {r : V → List V → Hp → VK → Prop} {o : PyData → List PyData → Option PyData} (hqa : A.qok G) (hr : RdM r o) (σ : St) (H : Hp) (Q : VK) (h : tE G (fBS o A As) σ H Q) : tBM X.K "str" r (A.t G) (tAll G As) σ H Q := by
  obtain ⟨Hf, ρ, rp, af⟩ := h
  refine Opd.run (stepO rp af) fun x H1 ⟨a, Hf1, ρ1, n1, ra, af1⟩ => ?_
  cases ei : isS (A.at a ρ1) with
  | false => simp only [ei] at af1; exact False.elim af1
  | true =>
    simp only [ei, if_true] at af1
    refine ⟨?_, tAll_mono ?_ (stepA n1.rp af1)⟩
    · cases e1 : A.at a ρ1 with
      | none => rw [e1] at ei; cases ei
      | some d =>
        rw [e1] at ei
        cases d <;> first | cases ei | skip
        cases (Opd.end n1.rp ra e1).str
        rfl
    · rintro xs H2 ⟨as, Hf2, ρ2, n2, rb, af2⟩
      obtain ⟨a', as', ea, eb, af3⟩ := finM_some af2
      obtain ⟨d, e, k⟩ := finO n2.rp af3
      obtain ⟨v, dv, hq⟩ := hr Hf2 H2 x xs a' as' d n2.rp.sub (Opd.end n2.rp (Opd.keep hqa n1.rp n2 ra) ea) (rAll1_end n2.rp rb eb) e
      exact hq Q (k v dv)
theorem finM_someL {σ : St} {ρ : Rho} {Hf H : Hp} {Q : VK} {a : PyData} {as : List PyData} {k : PyData → List PyData → Option (List PyData)} (af : AfL G σ ρ Hf H Q (finM A a As as k ρ)) : ∃ x xs, A.at a ρ = some x ∧ atAll As as ρ = some xs ∧ AfL G σ ρ Hf H Q (opt (k x xs) ρ) := by
  unfold finM at af
  cases e1 : A.at a ρ with
  | none => rw [e1] at af; exact af.elim
  | some x =>
    rw [e1] at af
    cases e2 : atAll As as ρ with
    | none => simp only [e2] at af; exact False.elim af
    | some y =>
      simp only [e2] at af
      exact ⟨x, y, rfl, rfl, af⟩
def RdLM (r : V → List V → Hp → VK → Prop) (o : PyData → List PyData → Option (List PyData)) : Prop := ∀ (Hf H : Hp) (x : V) (xs : List V) (a : PyData) (as : List PyData) (ds : List PyData), Same Hf H → R1 Hf H x a → R1A Hf H xs as → o a as = some ds → ∀ Q : VK, (∀ p vs, H p = none → RepA Hf vs ds → Q (.ref p) (upd H p (.lst vs))) → r x xs H Q
theorem rd_BSL {r : V → List V → Hp → VK → Prop} {o : PyData → List PyData → Option (List PyData)} (hqa : A.qok G) (hr : RdLM r o) (σ : St) (H : Hp) (Q : VK) (h : tL G (fBSL o A As) σ H Q) : tBM X.K "str" r (A.t G) (tAll G As) σ H Q := by
  obtain ⟨Hf, ρ, rp, af⟩ := h
  refine Opd.run (stepOL rp af) fun x H1 ⟨a, Hf1, ρ1, n1, ra, af1⟩ => ?_
  cases ei : isS (A.at a ρ1) with
  | false => simp only [ei] at af1; exact False.elim af1
  | true =>
    simp only [ei, if_true] at af1
    refine ⟨?_, tAll_mono ?_ (stepAL n1.rp af1)⟩
    · cases e1 : A.at a ρ1 with
      | none => rw [e1] at ei; cases ei
      | some d =>
        rw [e1] at ei
        cases d <;> first | cases ei | skip
        cases (Opd.end n1.rp ra e1).str
        rfl
    · rintro xs H2 ⟨as, Hf2, ρ2, n2, rb, af2⟩
      obtain ⟨a', as', ea, eb, af3⟩ := finM_someL af2
      obtain ⟨ds, e, k⟩ := finOL n2.rp af3
      exact hr Hf2 H2 x xs a' as' ds n2.rp.sub (Opd.end n2.rp (Opd.keep hqa n1.rp n2 ra) ea) (rAll1_end n2.rp rb eb) e Q k
def asStrs : List PyData → Option (List Str)
  | [] => some []
  | .str z :: r => (asStrs r).map (z :: ·)
  | _ :: _ => none
theorem rep_strV {H : Hp} {v : V} {z : Str} (r : Rep H v (.str z)) : v = .str z := by
  generalize hd : PyData.str z = dd at r
  cases r <;> cases hd
  rfl
theorem asStrs_map : ∀ ys : List Str, asStrs (ys.map PyData.str) = some ys
  | [] => rfl
  | y :: ys => by
    show (asStrs (ys.map PyData.str)).map (y :: ·) = _
    rw [asStrs_map ys]; rfl
theorem repA_strs {H : Hp} : ∀ {vs : List V} {ds : List PyData} {ys : List Str}, RepA H vs ds → asStrs ds = some ys → vs = ys.map V.str
  | _, _, ys, .nil, e => by cases e; rfl
  | _, _, ys, .cons (d := d) h t, e => by
    cases d <;> simp only [asStrs, reduceCtorEq] at e
    rename_i z
    cases q : asStrs _ with
    | none => rw [q] at e; cases e
    | some zs =>
      rw [q] at e
      cases e
      rw [rep_strV h, repA_strs t q]
      rfl
theorem strs_repA {H : Hp} : ∀ ys : List Str, RepA H (ys.map V.str) (ys.map PyData.str)
  | [] => .nil
  | y :: ys => .cons (.str _) (strs_repA ys)
def oJoin : PyData → List PyData → Option PyData
  | .str a, [.list ds] => (match asStrs ds with
    | some ys => if (ys.map (·.length)).sum + ys.length * a.length ≤ 16777216 then some (.str (Txt.join a ys)) else none
    | none => none)
  | .str a, [.tuple ds] => (match asStrs ds with
    | some ys => if (ys.map (·.length)).sum + ys.length * a.length ≤ 16777216 then some (.str (Txt.join a ys)) else none
    | none => none)
  | _, _ => none
theorem rd_join {K : PySem.W.Frag} : RdM (fun x xs H Q => ∃ a p, ∃ ys : List Str, x = .str a ∧ xs = [.ref p] ∧ (SqL K H p (ys.map V.str) ∨ SqT K H p (ys.map V.str)) ∧ (ys.map (·.length)).sum + ys.length * a.length ≤ 16777216 ∧ Q (.str (Txt.join a ys)) H) oJoin := by
  intro Hf H x xs a as d sm ha hb e
  unfold oJoin at e
  split at e
  · split at e
    · rename_i ys hy
      split at e
      · rename_i hl
        cases e
        cases ha.str
        cases hb with
        | cons h1 h2 =>
          cases h2
          obtain ⟨p, vs, rfl, g1, g2⟩ := h1.lst sm
          have := repA_strs g2 hy
          subst this
          exact ⟨_, .str _, fun Q q => ⟨_, _, ys, rfl, rfl, .inl (SqL.of g1), hl, q⟩⟩
      · cases e
    · cases e
  · split at e
    · rename_i ys hy
      split at e
      · rename_i hl
        cases e
        cases ha.str
        cases hb with
        | cons h1 h2 =>
          cases h2
          obtain ⟨p, vs, rfl, g1, g2⟩ := h1.tup sm
          have := repA_strs g2 hy
          subst this
          exact ⟨_, .str _, fun Q q => ⟨_, _, ys, rfl, rfl, .inr (SqT.of g1), hl, q⟩⟩
      · cases e
    · cases e
  · cases e
theorem fe_join {ap cp : Pos} (ho : PE X a (A.t G)) (ha : PA X (e :: es) (tAll G As)) (hbase : attributeBase a "join" X.env (eval a X.env) = eval a X.env := by rfl)
    (hfew : ((backTo cp (starEach (e :: es) X.env)).all (fun x => !x.1) && (backToKw cp (keywordEach [] X.env)).all (fun x => x.1.isSome) && decide ((e :: es).length + ([] : List Keyword).length + (if ([] : List Keyword).isEmpty then 0 else 1) < 30)) = true := by rfl)
    (hline : (ap.endLine == cp.line) = true := by rfl) (hs : starEach (e :: es) X.env = (false, eval e X.env) :: starEach es X.env := by rfl) (hplain : (backTo cp (starEach es X.env)).any (·.1) = false := by rfl) (hqa : A.qok G := by first | exact True.intro | rfl) : PE X (.Call (.Attribute a "join" ap) (e :: es) [] cp) (tE G (fBS oJoin A As)) :=
  (pe_bm PySem.F.plainAttrs_str PySem.F.slot_str_join PySem.F.type_str_join mt_join ho ha hbase hfew hline hs hplain).imp (rd_BS hqa rd_join)
def oSplit : PyData → List PyData → Option (List PyData)
  | .str a, [.str b] => if (b.length == 0) = false ∧ small a.length = true then some ((Txt.split a b).map PyData.str) else none
  | _, _ => none
theorem rd_split : RdLM (fun x xs H Q => ∃ a b, x = .str a ∧ xs = [.str b] ∧ (b.length == 0) = false ∧ a.length + 2 ≤ sizeLine ∧ rNewStrs (Txt.split a b) H Q) oSplit := by
  intro Hf H x xs a as ds sm ha hb e Q q
  unfold oSplit at e
  split at e
  · split at e
    · rename_i hc
      cases e
      cases ha.str
      cases hb with
      | cons h1 h2 =>
        cases h2
        cases h1.str
        have hs : _ ≤ 100000 := of_decide_eq_true hc.2
        exact ⟨_, _, rfl, rfl, hc.1, by rw [sizeLine_eq]; omega, fun p hp => q p _ hp (strs_repA _)⟩
    · cases e
  · cases e
theorem fl_split {ap cp : Pos} (ho : PE X a (A.t G)) (ha : PA X (e :: es) (tAll G As)) (hbase : attributeBase a "split" X.env (eval a X.env) = eval a X.env := by rfl)
    (hfew : ((backTo cp (starEach (e :: es) X.env)).all (fun x => !x.1) && (backToKw cp (keywordEach [] X.env)).all (fun x => x.1.isSome) && decide ((e :: es).length + ([] : List Keyword).length + (if ([] : List Keyword).isEmpty then 0 else 1) < 30)) = true := by rfl)
    (hline : (ap.endLine == cp.line) = true := by rfl) (hs : starEach (e :: es) X.env = (false, eval e X.env) :: starEach es X.env := by rfl) (hplain : (backTo cp (starEach es X.env)).any (·.1) = false := by rfl) (hqa : A.qok G := by first | exact True.intro | rfl) : PE X (.Call (.Attribute a "split" ap) (e :: es) [] cp) (tL G (fBSL oSplit A As)) :=
  (pe_bm PySem.F.plainAttrs_str PySem.F.slot_str_split PySem.F.type_str_split mt_split ho ha hbase hfew hline hs hplain).imp (rd_BSL hqa rd_split)
def oStrI : List PyData → Option PyData
  | [.int i] => if i.natAbs.log2 < 1920 then some (.str (toString i)) else none
  | _ => none
theorem rd_strI : RdC (fun xs H Q => ∃ i : Int, xs = [.int i] ∧ i.natAbs.log2 < 1920 ∧ Q (.str (toString i)) H) oStrI := by
  intro Hf H xs as d sm ra e
  unfold oStrI at e
  split at e
  · split at e
    · rename_i hl
      cases e
      cases ra with
      | cons h t => cases t; cases h.int; exact ⟨_, .str _, fun Q q => ⟨_, rfl, hl, q⟩⟩
    · cases e
  · cases e
theorem fe_strI {p : Pos} (hg : Gl X "str") (hm : X.mg "str" = none) (ha : PA X (e :: es) (tAll G As)) (he : starEach (e :: es) X.env = (false, eval e X.env) :: starEach es X.env := by rfl) (hpl : (backTo pos (starEach es X.env)).any (·.1) = false := by rfl) : PE X (.Call (.Name "str" p) (e :: es) [] pos) (tE G (fCB oStrI As)) :=
  fe_callTy call_str_int rd_strI hg hm (by decide +kernel) ha (by decide) (by decide) he hpl
def oIntS : List PyData → Option PyData
  | [.str a] => if a.length ≤ 640 then (PySem.intText? a).map PyData.int else none
  | _ => none
theorem rd_intS : RdC (fun xs H Q => ∃ a n, xs = [.str a] ∧ PySem.intText? a = some n ∧ a.length ≤ 640 ∧ Q (.int n) H) oIntS := by
  intro Hf H xs as d sm ra e
  unfold oIntS at e
  split at e
  · rename_i a
    split at e
    · rename_i hl
      cases q : PySem.intText? a with
      | none => rw [q] at e; cases e
      | some n =>
        rw [q] at e
        cases e
        cases ra with
        | cons h t => cases t; cases h.str; exact ⟨_, .int _, fun Q z => ⟨_, _, rfl, q, hl, z⟩⟩
    · cases e
  · cases e
theorem fe_intS {p : Pos} (hg : Gl X "int") (hm : X.mg "int" = none) (ha : PA X (e :: es) (tAll G As)) (he : starEach (e :: es) X.env = (false, eval e X.env) :: starEach es X.env := by rfl) (hpl : (backTo pos (starEach es X.env)).any (·.1) = false := by rfl) : PE X (.Call (.Name "int" p) (e :: es) [] pos) (tE G (fCB oIntS As)) :=
  fe_callTy call_int_str rd_intS hg hm (by decide +kernel) ha (by decide) (by decide) he hpl
def inS (i j : Str) : Bool := !(Builtin.Str.occurrences j i 0 j.length 1).isEmpty
def oInS : PyData → PyData → Option PyData
  | .str i, .str j => some (.bool (inS i j))
  | _, _ => none
def oNInS : PyData → PyData → Option PyData
  | .str i, .str j => some (.bool (!inS i j))
  | _, _ => none
theorem rd_InS : RdO (fun x y H Q => ∃ i j, x = .str i ∧ y = .str j ∧ Q (.bl (!(Builtin.Str.occurrences j i 0 j.length 1).isEmpty)) H) oInS := by
  intro Hf H x y a b d sm ha hb e
  cases a <;> cases b <;> simp only [oInS, reduceCtorEq] at e
  cases e
  cases ha.str
  cases hb.str
  exact ⟨_, .bl _, fun Q q => ⟨_, _, rfl, rfl, q⟩⟩
theorem rd_NInS : RdO (fun x y H Q => ∃ i j, x = .str i ∧ y = .str j ∧ Q (.bl (!(!(Builtin.Str.occurrences j i 0 j.length 1).isEmpty))) H) oNInS := by
  intro Hf H x y a b d sm ha hb e
  cases a <;> cases b <;> simp only [oNInS, reduceCtorEq] at e
  cases e
  cases ha.str
  cases hb.str
  exact ⟨_, .bl _, fun Q q => ⟨_, _, rfl, rfl, q⟩⟩
@[simp] def itemsS : PyData → Option (List PyData)
  | .str z => some (z.cps.toList.map fun c => .str ⟨#[c]⟩)
  | _ => none
@[simp] def fItS (f : M PyData) : M (List PyData) := fun ρ => (bnd f fun d => opt (itemsS d)) ρ
theorem iter_str {σ0 : St} {ρ0 : Rho} {Hf H0 : Hp} (z : Str) : IterOk σ0 ρ0 Hf H0 (Its z) (z.cps.toList.map fun c => .str ⟨#[c]⟩) := by
  intro i Hf1 H σ ρ nn
  refine ⟨fun d e => ?_, fun hl => ?_⟩
  · rw [List.getElem?_map] at e
    cases q : z.cps.toList[i]? with
    | none => rw [q] at e; cases e
    | some c =>
      rw [q] at e
      cases e
      have hq : z.cps[i]? = some c := by rw [← Array.getElem?_toList]; exact q
      refine ⟨?_, fun x H' ⟨eh, c', ec, ex⟩ => ?_⟩
      · exact (Array.getElem?_eq_some_iff.mp hq).1
      · subst eh
        rw [hq] at ec
        cases ec
        subst ex
        exact ⟨_, .refl nn.rp, .str _⟩
  · show z.cps.size ≤ i
    rw [List.length_map, Array.length_toList] at hl
    exact hl
theorem fi_str {tg : Expr} {f : M PyData} (he : PE X e (tE G f)) : PI X tg e (tI G (fItS f)) := by
  refine (pi_str he).imp fun σ H R ⟨Hf, ρ, rp, af⟩ => ?_
  refine (stepI rp af).mono fun v H1 ⟨d, Hf1, ρ1, n1, ra, af1⟩ => ?_
  cases d <;> first | exact False.elim af1 | skip
  rename_i z
  rw [rep_strV ra]
  exact ⟨_, rfl, finI n1.rp af1 (iter_str z)⟩
def oCatS : PyData → PyData → Option PyData
  | .str i, .str j => if small i.length = true ∧ small j.length = true then some (.str (i ++ j)) else none
  | _, _ => none
theorem rd_catS : RdO (fun x y H Q => ∃ i j, x = .str i ∧ y = .str j ∧ i.length + j.length ≤ sizeLine ∧ Q (.str (i ++ j)) H) oCatS := by
  intro Hf H x y a b d sm ha hb e
  cases a <;> cases b <;> simp only [oCatS, reduceCtorEq] at e
  split at e
  · rename_i hs
    cases e
    cases ha.str
    cases hb.str
    have h1 : _ ≤ 100000 := of_decide_eq_true hs.1
    have h2 : _ ≤ 100000 := of_decide_eq_true hs.2
    exact ⟨_, .str _, fun Q q => ⟨_, _, rfl, rfl, by rw [sizeLine_eq]; omega, q⟩⟩
  · cases e
theorem fe_catS {b : Expr} {B : Opd} (ha : PE X a (A.t G)) (hb : PE X b (B.t G)) (hqa : A.qok G := by first | exact True.intro | rfl) : PE X (.BinOp a .Add b pos) (tE G (fOp oCatS A B)) := fe_op op_add_str rd_catS ha hb hqa
def repS (z : Str) (n : Nat) : Str := ⟨(List.replicate n z.cps).foldl (· ++ ·) #[]⟩
theorem fold_app (c : Array Nat) : ∀ (n : Nat) (a : Array Nat), ((List.replicate n c).foldl (· ++ ·) a).size = a.size + n * c.size
  | 0, a => by simp
  | n + 1, a => by
    rw [List.replicate_succ, List.foldl_cons, fold_app c n, Array.size_append, Nat.add_mul]
    omega
theorem repS_len (z : Str) (n : Nat) : (repS z n).length = n * z.length := by
  show ((List.replicate n z.cps).foldl (· ++ ·) #[]).size = n * z.cps.size
  rw [fold_app]
  simp
theorem op_repS : OpR X (binaryOp .Mult) (fun x y H Q => ∃ (z : Str) (n : Int), x = .str z ∧ y = .int n ∧ (1 ≤ n ∧ n ≤ 1000 ∧ z.length ≤ 1000 ∧ 1 ≤ z.length) ∧ Q (.str (repS z n.toNat)) H) := by
  intro pins s σ H x y v u Q I rx ry h
  obtain ⟨z, n, rfl, rfl, ⟨h1, h2, h3, h4⟩, q⟩ := h
  obtain ⟨t, rfl⟩ := rx
  obtain ⟨t', rfl⟩ := ry
  have hm : n.toNat * z.length ≤ 1000 * 1000 := Nat.mul_le_mul (by omega) h3
  refine PySem.P.mul_str (by
    rw [decide_eq_false (by omega), decide_eq_false (by omega)]; rfl) (fun _ _ => ?_) (fun _ _ => ?_) ?_
  · have : (1000 : Int) ≤ (2 ^ 63 - 1) / n := (Int.le_ediv_iff_mul_le (by omega)).mpr (by omega)
    omega
  · exact decide_eq_false (by rw [Nat.mul_comm]; rw [sizeLine_eq]; omega)
  · rw [if_neg (by omega)]
    by_cases n1 : n = 1
    · subst n1
      rw [if_pos (by rfl)]
      have e : repS z (1 : Int).toNat = z := by
        unfold repS
        simp
      rw [e] at q
      exact ⟨.str z, H, I, ⟨t, rfl⟩, q⟩
    · rw [if_neg (by
        rw [Bool.or_eq_true, beq_iff_eq, beq_iff_eq]
        omega)]
      refine ⟨?_, ⟨.str (repS z n.toNat), H, I.tok _, ⟨_, rfl⟩, q⟩⟩
      have := repS_len z n.toNat
      show (repS z n.toNat).length ≤ _
      rw [sizeLine_eq]
      omega
def oRepS : PyData → PyData → Option PyData
  | .str z, .int n => if 1 ≤ n ∧ n ≤ 1000 ∧ z.length ≤ 1000 ∧ 1 ≤ z.length then some (.str (repS z n.toNat)) else none
  | _, _ => none
theorem rd_repS : RdO (fun x y H Q => ∃ (z : Str) (n : Int), x = .str z ∧ y = .int n ∧ (1 ≤ n ∧ n ≤ 1000 ∧ z.length ≤ 1000 ∧ 1 ≤ z.length) ∧ Q (.str (repS z n.toNat)) H) oRepS := by
  intro Hf H x y a b d sm ha hb e
  cases a <;> cases b <;> simp only [oRepS, reduceCtorEq] at e
  split at e
  · rename_i hs
    cases e
    cases ha.str
    cases hb.int
    exact ⟨_, .str _, fun Q q => ⟨_, _, rfl, rfl, hs, q⟩⟩
  · cases e
theorem fe_repS {b : Expr} {B : Opd} (ha : PE X a (A.t G)) (hb : PE X b (B.t G)) (hqa : A.qok G := by first | exact True.intro | rfl) : PE X (.BinOp a .Mult b pos) (tE G (fOp oRepS A B)) := fe_op op_repS rd_repS ha hb hqa
end
end Fx
namespace Fx
open PySem L2
abbrev DTab := Str × List (Str × Int)
def entQ (e : DictEntry) : Option (Str × Int) := match e.key, e.val with
  | .str x _, .int i _ => some (x, i)
  | _, _ => none
def valsQ (K : PySem.W.Frag) (a : Addr) (kvs : List (Str × Int)) : Bool := match K.lookup a with
  | some ⟨_, _, .dict es _, _⟩ => decide (es.toList.map entQ = kvs.map some)
  | _ => false
structure DicOk (K : PySem.W.Frag) (w : World) (d : Addr) (kvs : List (Str × Int)) : Prop where
  kd : ∃ es n, KDict K w d es n
  get : ∀ z : Str, ∃ r, PySem.W.nsIn K d z = some r ∧ match kvs.lookup z with
    | some i => ∃ t, r = some (.int i t)
    | none => r = none
theorem ents_get : ∀ {l : List DictEntry} {kvs : List (Str × Int)}, l.map entQ = kvs.map some → ∀ z : Str, l.any (·.refKey) = false ∧ match kvs.lookup z with
    | some i => ∃ e t, l.find? (·.key.isStr z) = some e ∧ e.val = .int i t
    | none => l.find? (·.key.isStr z) = none
  | [], [], _, z => ⟨rfl, rfl⟩
  | [], _ :: _, h, _ => by cases h
  | _ :: _, [], h, _ => by cases h
  | e :: l, (k, i) :: kvs, h, z => by
    rw [List.map_cons, List.map_cons] at h
    injection h with h1 h2
    obtain ⟨r1, r2⟩ := ents_get h2 z
    obtain ⟨t, u, ek, ev⟩ : ∃ t u, e.key = .str k t ∧ e.val = .int i u := by
      unfold entQ at h1
      split at h1
      · rename_i x t j u q1 q2
        cases h1
        exact ⟨t, u, q1, q2⟩
      · cases h1
    refine ⟨?_, ?_⟩
    · rw [List.any_cons, r1, Bool.or_false]
      unfold DictEntry.refKey
      rw [ek]
    · rw [List.lookup_cons]
      by_cases hz : z = k
      · subst hz
        rw [show (z == z) = true by simp]
        refine ⟨e, u, ?_, ev⟩
        rw [List.find?_cons_of_pos]
        rw [ek]
        simp [Value.isStr]
      · rw [show (z == k) = false by simpa using hz]
        dsimp only
        rw [List.find?_cons_of_neg (by
          rw [ek]
          simp [Value.isStr]
          exact fun w => hz w.symm)]
        exact r2
theorem dic_ok {K : PySem.W.Frag} {w : World} {d : Addr} {kvs : List (Str × Int)} (h1 : He.dicW K d = some (He.keysIn w.params (kvs.map (·.1)))) (h2 : valsQ K d kvs = true) : DicOk K w d kvs := by
  obtain ⟨es, n, D⟩ := He.dicW_ok h1
  refine ⟨⟨es, n, D⟩, fun z => ?_⟩
  unfold valsQ at h2
  rw [D.at_] at h2
  have h3 := of_decide_eq_true h2
  obtain ⟨g1, g2⟩ := ents_get h3 z
  unfold PySem.W.nsIn
  rw [D.at_]
  dsimp only
  cases q : kvs.lookup z with
  | some i =>
    rw [q] at g2
    obtain ⟨e, t, f, v⟩ := g2
    rw [f]
    exact ⟨_, rfl, t, by rw [v]⟩
  | none =>
    rw [q] at g2
    dsimp only at g2
    rw [g2]
    exact ⟨_, by rw [g1]; rfl, rfl⟩
def wSp (src : Source → Nat → Nat) (P : Params) (b : Bool) : World := ⟨src, { P with followText := fun s => if s = "special-get-raises" then b else P.followText s }⟩
theorem run_split {Q : World → Prop} (h : ∀ (src : Source → Nat → Nat) (P : Params) (b : Bool), Q (wSp src P b)) (w : World) : Q w := by
  obtain ⟨src, P⟩ := w
  have z := h src P (P.followText "special-get-raises")
  have e : wSp src P (P.followText "special-get-raises") = ⟨src, P⟩ := by
    unfold wSp
    have f : (fun s => if s = "special-get-raises" then P.followText "special-get-raises" else P.followText s) = P.followText := funext fun s => by
      by_cases q : s = "special-get-raises"
      · rw [if_pos q, q]
      · rw [if_neg q]
    rw [f]
  rw [e] at z
  exact z
abbrev AlD : Type := (He.Al × Bool) × List (Option (List (Option (Str × Int))) × Bool)
def dicQ (K : PySem.W.Frag) (t : DTab) : Option (List (Option (Str × Int))) × Bool := (He.dicW K (He.ga K t.1), valsQ K (He.ga K t.1) t.2)
def obsDG (n : Nat) (fa : List Fq) (fn : List He.FnD) (tf : List Str) (ts : List DTab) (g : Addr → Option Obj) : AlD := (obsQG n fa fn tf g, ts.map fun t => dicQ (He.frT g (He.asG g n)) t)
class TabD (ts : List DTab) (w : World) (K : PySem.W.Frag) : Prop where
  tab : ∀ t ∈ ts, DicOk K w (He.ga K t.1) t.2
def valD (fn : List He.FnD) (ts : List DTab) (w : World) : AlD := ((He.valE fn, true), ts.map fun t => (some (He.keysIn w.params (t.2.map (·.1))), true))
theorem tabD_of {ts : List DTab} {w : World} {K : PySem.W.Frag} (e : (ts.map fun t => dicQ K t) = ts.map fun t => (some (He.keysIn w.params (t.2.map (·.1))), true)) : TabD ts w K := by
  refine ⟨fun t ht => ?_⟩
  obtain ⟨i, hi, rfl⟩ := List.mem_iff_getElem.mp ht
  have e2 := congrArg (fun z => z[i]?) e
  rw [List.getElem?_map, List.getElem?_map, List.getElem?_eq_getElem hi] at e2
  have e3 := Option.some.inj e2
  unfold dicQ at e3
  exact dic_ok (congrArg (fun z => z.1) e3) (congrArg (fun z => z.2) e3)
def hookD (n : Nat) (fa : List Fq) (fn : List He.FnD) (tf : List Str) (ts : List DTab) : PySem.W.Hook where
  α := AlD
  obs := fun s => obsDG n fa fn tf ts s.heap.get?
  val := fun w => valD fn ts w
  says := fun w h => ∃ K : PySem.W.Frag, K.In h ∧ (SaysQ fa fn K ∧ TabQ tf h K) ∧ TabD ts w K
  of := fun _ _ e => ⟨_, He.frT_in, ⟨congrArg (fun z : AlD => z.1.1) e, tabQ_of (congrArg (fun z : AlD => z.1.2) e)⟩, tabD_of (congrArg (fun z : AlD => z.2) e)⟩
  keeps := fun _ _ _ ⟨K, hK, ⟨c, t⟩, d⟩ k => ⟨K, PySem.W.Frag.In.keeps hK k, ⟨c, ⟨t.hd, t.out, fun x hx => k _ _ (t.empty x hx), t.nd⟩⟩, d⟩
theorem obsDG_eq {n : Nat} {fa : List Fq} {fn : List He.FnD} {tf : List Str} {ts : List DTab} {g : Addr → Option Obj} {s : Shared} (h : ∀ a, g a = s.heap.get? a) : obsDG n fa fn tf ts g = (hookD n fa fn tf ts).obs s := by
  have e : g = s.heap.get? := funext h
  rw [e] <;> rfl
variable [Tabz]
def oNInK (kvs : List (Str × Int)) : PyData → Option PyData
  | .str z => some (.bool (!(kvs.lookup z).isSome))
  | _ => none
def oItK (kvs : List (Str × Int)) : PyData → Option PyData
  | .str z => (kvs.lookup z).map PyData.int
  | _ => none
section
variable {X : Cx} {G : Gx} {pos : Pos} {a : Expr} {A : Opd} {x : Str} {d : Addr} {kvs : List (Str × Int)} {p1 : Pos}
theorem rd_ninK (D : DicOk X.K X.w d kvs) : RdU (fun v H Q => ∃ (z : Str) (r : Option Value), v = .str z ∧ PySem.W.nsIn X.K d z = some r ∧ Q (.bl (!r.isSome)) H) (oNInK kvs) := by
  intro Hf H v b c sm rb e
  cases b <;> simp only [oNInK, reduceCtorEq] at e
  rename_i z
  cases e
  cases rb.str
  obtain ⟨r, hr, hv⟩ := D.get z
  refine ⟨_, .bl _, fun Q q => ⟨z, r, rfl, hr, ?_⟩⟩
  cases q1 : kvs.lookup z with
  | some i => rw [q1] at hv q; obtain ⟨t, rfl⟩ := hv; exact q
  | none => rw [q1] at hv q; dsimp only at hv; subst hv; exact q
theorem rd_itK (D : DicOk X.K X.w d kvs) : RdU (fun v H Q => ∃ (z : Str) (u : Value) (v0 : V), v = .str z ∧ PySem.W.nsIn X.K d z = some (some u) ∧ RelV v0 u ∧ Q v0 H) (oItK kvs) := by
  intro Hf H v b c sm rb e
  cases b <;> simp only [oItK, reduceCtorEq] at e
  rename_i z
  cases rb.str
  obtain ⟨r, hr, hv⟩ := D.get z
  cases q1 : kvs.lookup z with
  | none => rw [q1] at e; cases e
  | some i =>
    rw [q1] at hv e
    cases e
    obtain ⟨t, rfl⟩ := hv
    exact ⟨_, .int _, fun Q q => ⟨z, _, .int i, rfl, hr, ⟨t, rfl⟩, q⟩⟩
theorem ft_ninK (D : DicOk X.K X.w d kvs) (hg : Gl X x) (hm : X.mg x = some (.ref d)) (ha : PE X a (A.t G)) (hd : (x == ("__debug__" : Str)) = false := by decide) : PT X (.Compare a [.NotIn] [.Name x p1] pos) (tT G (fB (fUn (oNInK kvs) A))) := by
  obtain ⟨es, n, kd⟩ := D.kd
  exact (pt_cmpR (op_notIn_kd kd) ha (pe_glob (v := .ref d) hg hm rfl hd) rfl).imp fun σ H Q h => Opd.run (rd_un (rd_ninK D) σ H _ (rd_B σ H Q h)) fun x H1 ⟨z, r, e1, e2, q⟩ => ⟨z, r, e1, rfl, e2, q⟩
theorem fe_itK (D : DicOk X.K X.w d kvs) (hg : Gl X x) (hm : X.mg x = some (.ref d)) (ha : PE X a (A.t G)) (hs : PlainIx a := by exact fun _ _ => rfl) (hd : (x == ("__debug__" : Str)) = false := by decide) : PE X (.Subscript (.Name x p1) a pos) (tE G (fUn (oItK kvs) A)) := by
  obtain ⟨es, n, kd⟩ := D.kd
  exact (pe_ix ix_kdict (pe_glob (v := .ref d) hg hm rfl hd) ha hs).imp fun σ H Q h => Opd.run (rd_un (rd_itK D) σ H Q h) fun x H1 ⟨z, u, v0, e1, e2, e3, q⟩ => ⟨d, z, v0, rfl, e1, ⟨es, n, u, kd.at_, kd.lit, e2, e3⟩, q⟩
end
end Fx
namespace Fx
open PySem L2
variable [Tabz]
section
variable {X : Cx} {G : Gx} {a b : Expr} {pos : Pos} {f g : M PyData}
@[simp] def fDninD (f g : M PyData) : M PyData := fun ρ => (bnd f fun k => bnd g fun d => opt ((dlk d k).map fun r => .bool (!r.isSome))) ρ
theorem dninD_run (σ : St) (H : Hp) (Q : VK) (w : tE G (fDninD f g) σ H Q) : tDNotIn (tE G f) (tE G g) σ H Q := by
  obtain ⟨Hf, ρ, rp, af⟩ := w
  refine (step rp af).mono fun x H1 ⟨k, Hf1, ρ1, n1, rk, af1⟩ => (step n1.rp af1).mono fun y H2 ⟨d, Hf2, ρ2, n2, rd, af2⟩ => ?_
  obtain ⟨d', e1, q1⟩ := finO n2.rp af2
  cases e2 : dlk d k with
  | none => rw [e2] at e1; cases e1
  | some r =>
    rw [e2] at e1
    cases e1
    obtain ⟨a2, ov, ev, g1, g2⟩ := dlk_rep n2.rp.sub rd (rep_same n2.sub rk) e2
    have es : r.isSome = ov.isSome := by
      rcases g2 with ⟨h1, h2⟩ | ⟨d1, v1, h1, h2, h3⟩ <;> (rw [h1, h2]; try rfl)
    dsimp only at q1
    rw [es] at q1
    exact ⟨a2, ov, ev, g1, q1 _ (.bl _)⟩
theorem ft_dninD (hu : X.A.units + 1 < cLine) (ha : PE X a (tE G f)) (hb : PE X b (tE G g)) (hm : behindInMarks .NotIn b = false := by rfl) : PT X (.Compare a [.NotIn] [b] pos) (tT G (fB (fDninD f g))) := (pt_cmp (pc_dnotin hu ha hb) hm).imp fun σ H Q w => dninD_run σ H _ (rd_B σ H Q w)
end
end Fx
namespace Fx
open PySem L2
variable [Tabz]
section
variable {X : Cx} {G : Gx} {pn : List Nat} {s : Stmt}
@[simp] def sBad : Rho → Fl := fun _ => .bad
@[simp] def fGiv (i : Nat) : M PyData := fun ρ => match ρ[i]? with
  | some (.tr t) => (match frzT t with
    | some d => .ok (d, ρ.set i (.fz d))
    | none => .bad)
  | _ => .bad
end
end Fx
namespace K55
open PySem L2 Fx Mm
variable [Tabz]
def dc_SIZES : List (Str × Int) := [("raw", 0), ("come", 4), ("go", 3), ("strike_lot", 1), ("strike_out", 1), ("lay", 2), ("call_back", 1)]
def exL : List Str := ["BadText", "BadMinutes"]
def mEx (c : Str) : Option Bool := if c ∈ exL then some true else none
def is_BadMinutes (c : Str) : Bool := decide (c = "BadMinutes")
def is_BadText (c : Str) : Bool := decide (c = "BadText")
def is_ValueError (c : Str) : Bool := true
noncomputable def q_number_in_1 : M (List PyData) := (fLc (fItS (fVar 0)) (gSet 1) (ret true) (fOp oInS (.v 1) (.e (ret (.str "0123456789")))) [1])
noncomputable def g_number_in : Rho → Fl := (sSeq (sIf (tOrM (fB (fOp oEQ (.v 0) (.e (ret (.str ""))))) (tOrM (fB (fOp oGt (.e (fCB oLen [(.v 0)])) (.e (ret (.int 7))))) (tNotM (fB (fCB oAll [(.e (fLst q_number_in_1))]))))) (sRaise "BadText") sNil)
    (sSeq (sIf (tAndM (fB (fOp oEQ (.e (fOp oIx (.v 0) (.e (ret (.int 0))))) (.e (ret (.str "0"))))) (fB (fOp oGt (.e (fCB oLen [(.v 0)])) (.e (ret (.int 1)))))) (sRaise "BadText") sNil)
    (sRet (fCB oIntS [(.v 0)]))))
noncomputable abbrev F_number_in := runP 2 g_number_in 1
noncomputable def q_numbers_in_1 : M (List PyData) := (fLcX (fItL (fVar 0)) (gSet 1) (ret true) (fCall F_number_in (fCons (fVar 1) fNil)) [1])
noncomputable def g_numbers_in : Rho → Fl := (sRetL q_numbers_in_1)
noncomputable abbrev F_numbers_in := runP 2 g_numbers_in 1
noncomputable def q_pairs_in_1 : M (List PyData) := (fLc (fAB oRng1 (fCons (fCB oLen [(.v 0)]) fNil)) (gSet 1) (fB (fOp oEQ (.e (fOp oMod (.v 1) (.e (ret (.int 2))))) (.e (ret (.int 0))))) (fTup (fCons (fOp oIx (.v 0) (.v 1)) (fCons (fOp oIx (.v 0) (.e (fOp oAdd (.v 1) (.e (ret (.int 1)))))) fNil))) [1])
noncomputable def g_pairs_in : Rho → Fl := (sRet (fCB oTuple [(.e (fLst q_pairs_in_1))]))
noncomputable abbrev F_pairs_in := runP 2 g_pairs_in 1
noncomputable def g_read_deed : Rho → Fl := (sSeq (sSet 1 (fLst (fBSL oSplit (.v 0) [(.e (ret (.str " ")))])))
    (sSeq (sSet 2 (fLst (fCallL F_numbers_in (fCons (fLst (fSl (.v 1) (fP (ret (.int 1))) fNoP)) fNil))))
    (sSeq (sIf (fB (fOp oEQ (.e (fOp oIx (.v 1) (.e (ret (.int 0))))) (.e (ret (.str "made"))))) (sSeq (sIf (tOrM (fB (fOp oEQ (.e (fCB oLen [(.v 2)])) (.e (ret (.int 0))))) (fB (fOp oEQ (.e (fOp oMod (.e (fCB oLen [(.v 2)])) (.e (ret (.int 2))))) (.e (ret (.int 1)))))) (sRaise "BadText") sNil)
    (sRet (fTup (fCons (ret (.str "made")) (fCons (fCall F_pairs_in (fCons (fVar 2) fNil)) fNil))))) sNil)
    (sSeq (sIf (tOrM (fB (fUn (oNInK dc_SIZES) (.e (fOp oIx (.v 1) (.e (ret (.int 0))))))) (fB (fOp oNE (.e (fUn (oItK dc_SIZES) (.e (fOp oIx (.v 1) (.e (ret (.int 0))))))) (.e (fCB oLen [(.v 2)]))))) (sRaise "BadText") sNil)
    (sRet (fOp oCatT (.e (fTup (fCons (fOp oIx (.v 1) (.e (ret (.int 0)))) fNil))) (.e (fCB oTuple [(.v 2)]))))))))
noncomputable abbrev F_read_deed := runP 3 g_read_deed 1
noncomputable def b_l_line_1 : Rho → Fl := (sSetL 1 (fOpL oCat (.v 1) (.e (fLst (fLs (fCons (fCB oStrI [(.e (fOp oIx (.v 3) (.e (ret (.int 0)))))]) (fCons (fCB oStrI [(.e (fOp oIx (.v 3) (.e (ret (.int 1)))))]) fNil)))))))
noncomputable def b_l_line_2 : Rho → Fl := (sIf (fB (fUn (oIs "tuple") (.v 2))) (sFor (fItT (fVar 2)) (gSet 3) b_l_line_1) (sMut 1 (fCB oStrI [(.v 2)]) kAppend))
noncomputable def g_l_line : Rho → Fl := (sSeq (sSetL 1 (fLs (fCons (fOp oIx (.v 0) (.e (ret (.int 0)))) fNil)))
    (sSeq (sFor (fItT (fSlA (fVar 0) (fP (ret (.int 1))) fNoP)) (gSet 2) b_l_line_2)
    (sRet (fBS oJoin (.e (ret (.str " "))) [(.v 1)]))))
noncomputable abbrev F_l_line := runP 4 g_l_line 1
noncomputable def g_l_any_number : Rho → Fl := (sRet (fCallI 0 F_l_pick (fCons (fOp oIx (.e (fTup (fCons (ret (.int 10)) (fCons (ret (.int 100)) (fCons (ret (.int 1000)) (fCons (fOp oPow (.e (ret (.int 10))) (.e (ret (.int 7)))) fNil)))))) (.e (fCallI 0 F_l_pick (fCons (ret (.int 4)) fNil)))) fNil)))
noncomputable abbrev F_l_any_number := runI 1 g_l_any_number 1
noncomputable def b_l_any_deed_1 : Rho → Fl := (sSeq (sSet 5 (fCallI 0 F_l_any_number fNil))
    (sMut 3 (fTup (fCons (fVar 5) (fCons (fCallI 0 F_l_any_number fNil) fNil))) kAppend))
noncomputable def q_l_any_deed_1 : M (List PyData) := (fLc (fAB oRng1 (fCons (fVar 6) fNil)) (gSet 4) (ret true) (fCallI 0 F_l_any_number fNil) [4])
noncomputable def g_l_any_deed : Rho → Fl := (sSeq (sSet 1 (fLst (fLs (fCons (ret (.str "raw")) (fCons (ret (.str "made")) (fCons (ret (.str "come")) (fCons (ret (.str "go")) (fCons (ret (.str "strike_lot")) (fCons (ret (.str "strike_out")) (fCons (ret (.str "lay")) (fCons (ret (.str "call_back")) fNil)))))))))))
    (sSeq (sSet 2 (fOp oIx (.v 1) (.e (fCallI 0 F_l_pick (fCons (ret (.int 8)) fNil)))))
    (sSeq (sIf (fB (fOp oEQ (.v 2) (.e (ret (.str "made"))))) (sSeq (sSetL 3 (fLs fNil))
    (sSeq (sFor (fAB oRng1 (fCons (fOp oAdd (.e (ret (.int 1))) (.e (fCallI 0 F_l_pick (fCons (ret (.int 4)) fNil)))) fNil)) (gSet 4) b_l_any_deed_1)
    (sRet (fTup (fCons (ret (.str "made")) (fCons (fCB oTuple [(.v 3)]) fNil)))))) sNil)
    (sSeq (sSet 6 (fDgD (fFrz (nDisp (nsCons "raw" (nE (ret (.int 0))) (nsCons "come" (nE (ret (.int 4))) (nsCons "go" (nE (ret (.int 3))) (nsCons "lay" (nE (ret (.int 2))) nsNil)))))) (fVar 2) (ret (.int 1))))
    (sRet (fOp oCatT (.e (fTup (fCons (fVar 2) fNil))) (.e (fCB oTuple [(.e (fLst q_l_any_deed_1))]))))))))
noncomputable abbrev F_l_any_deed := runI 7 g_l_any_deed 1
noncomputable def g_l_bent_line : Rho → Fl := (sSeq (sSet 2 (ret (.str " !#$&'()*+,-./0123456789:;<=>?@ABCDEFGHIJKLMNOPQRSTUVWXYZ[]^_abcdefghijklmnopqrstuvwxyz{|}~")))
    (sSeq (sSetL 3 (fBSL oSplit (.v 1) [(.e (ret (.str " ")))]))
    (sSeq (sSet 4 (fCallI 0 F_l_pick (fCons (fCB oLen [(.v 3)]) fNil)))
    (sSeq (sSet 5 (fCallI 0 F_l_pick (fCons (ret (.int 8)) fNil)))
    (sSeq (sIf (fB (fOp oEQ (.v 5) (.e (ret (.int 0))))) (sInsert 3 (fVar 4) (fOp oIx (.v 3) (.v 4))) sNil)
    (sSeq (sIf (fB (fOp oEQ (.v 5) (.e (ret (.int 1))))) (sDrop (fPopAt 3 (fVar 4))) sNil)
    (sSeq (sIf (fB (fOp oEQ (.v 5) (.e (ret (.int 2))))) (sSetIx 3 (fOp oCatS (.e (ret (.str "0"))) (.e (fOp oIx (.v 3) (.v 4)))) (fVar 4)) sNil)
    (sSeq (sIf (fB (fOp oEQ (.v 5) (.e (ret (.int 3))))) (sSetIx 3 (fOp oCatS (.e (fOp oIx (.v 3) (.v 4))) (.e (fOp oRepS (.e (fOp oIx (.e (ret (.str "0123456789"))) (.e (fCallI 0 F_l_pick (fCons (ret (.int 10)) fNil))))) (.e (fOp oAdd (.e (ret (.int 1))) (.e (fCallI 0 F_l_pick (fCons (ret (.int 7)) fNil)))))))) (fVar 4)) sNil)
    (sSeq (sIf (fB (fOp oEQ (.v 5) (.e (ret (.int 4))))) (sSeq (sSet 6 (fLst (fLs (fCons (ret (.str "")) (fCons (ret (.str "-1")) (fCons (ret (.str "0")) (fCons (ret (.str "9999999")) (fCons (ret (.str "10000000")) (fCons (ret (.str "raw")) (fCons (ret (.str "made")) (fCons (ret (.str "lay")) (fCons (ret (.str "1/2")) (fCons (ret (.str "+1")) (fCons (ret (.str "1_0")) (fCons (ret (.str "1.0")) (fCons (ret (.str "0x1")) fNil))))))))))))))))
    (sSetIx 3 (fOp oIx (.v 6) (.e (fCallI 0 F_l_pick (fCons (ret (.int 13)) fNil)))) (fVar 4))) sNil)
    (sSeq (sSet 1 (fBS oJoin (.e (ret (.str " "))) [(.v 3)]))
    (sSeq (sIf (fB (fOp oGt (.v 5) (.e (ret (.int 4))))) (sSeq (sSet 4 (fCallI 0 F_l_pick (fCons (fOp oAdd (.e (fCB oLen [(.v 1)])) (.e (ret (.int 1)))) fNil)))
    (sSet 1 (fOp oCatS (.e (fOp oCatS (.e (fSlS (fVar 1) fNoP (fP (fVar 4)))) (.e (fOp oIx (.v 2) (.e (fCallI 0 F_l_pick (fCons (fCB oLen [(.v 2)]) fNil))))))) (.e (fSlS (fVar 1) (fP (fOp oAdd (.v 4) (.e (fCallI 0 F_l_pick (fCons (ret (.int 2)) fNil))))) fNoP))))) sNil)
    (sRetV0 1))))))))))))
noncomputable abbrev F_l_bent_line := runI 7 g_l_bent_line 2
noncomputable def b_l_figure_1 : Rho → Fl := (sIf (fB (fOp oNInS (.v 1) (.e (ret (.str "0123456789"))))) (sRet (ret .none)) sNil)
noncomputable def g_l_figure : Rho → Fl := (sSeq (sIf (tNotM (fB (fCh oLt oLt (.e (ret (.int 0))) (.e (fCB oLen [(.v 0)])) (.e (ret (.int 8)))))) (sRet (ret .none)) sNil)
    (sSeq (sFor (fItS (fVar 0)) (gSet 1) b_l_figure_1)
    (sRet (fIf (fB (fOp oEQ (.e (fCB oStrI [(.e (fCB oIntS [(.v 0)]))])) (.v 0))) (fCB oIntS [(.v 0)]) (ret .none)))))
noncomputable abbrev F_l_figure := runP 2 g_l_figure 1
noncomputable def q_l_figures_1 : M (List PyData) := (fLc (fItL (fVar 0)) (gSet 2) (ret true) (fCall F_l_figure (fCons (fVar 2) fNil)) [2])
noncomputable def g_l_figures : Rho → Fl := (sSeq (sSetL 1 q_l_figures_1)
    (sRet (fIf (fB (fOp oIn (.e (ret .none)) (.v 1))) (ret .none) (fVar 1))))
noncomputable abbrev F_l_figures := runP 3 g_l_figures 1
noncomputable def q_l_read_1 : M (List PyData) := (fLc (fAB oRng1 (fCons (fCB oLen [(.v 2)]) fNil)) (gSet 4) (fB (fOp oEQ (.e (fOp oMod (.v 4) (.e (ret (.int 2))))) (.e (ret (.int 0))))) (fTup (fCons (fOp oIx (.v 2) (.v 4)) (fCons (fOp oIx (.v 2) (.e (fOp oAdd (.v 4) (.e (ret (.int 1)))))) fNil))) [4])
noncomputable def g_l_read : Rho → Fl := (sSeq (sSet 1 (fLst (fBSL oSplit (.v 0) [(.e (ret (.str " ")))])))
    (sSeq (sSet 2 (fCall F_l_figures (fCons (fLst (fSl (.v 1) (fP (ret (.int 1))) fNoP)) fNil)))
    (sSeq (sSet 3 (fFrz (nDisp (nsCons "raw" (nE (ret (.int 0))) (nsCons "come" (nE (ret (.int 4))) (nsCons "go" (nE (ret (.int 3))) (nsCons "strike_lot" (nE (ret (.int 1))) (nsCons "strike_out" (nE (ret (.int 1))) (nsCons "lay" (nE (ret (.int 2))) (nsCons "call_back" (nE (ret (.int 1))) nsNil))))))))))
    (sSeq (sIf (fB (fUn oIsN (.v 2))) (sRet (ret .none)) sNil)
    (sSeq (sIf (tAndM (fB (fOp oEQ (.e (fOp oIx (.v 1) (.e (ret (.int 0))))) (.e (ret (.str "made"))))) (tAndM (fB (fOp oNE (.v 2) (.e (fLst (fLs fNil))))) (fB (fOp oEQ (.e (fOp oMod (.e (fCB oLen [(.v 2)])) (.e (ret (.int 2))))) (.e (ret (.int 0))))))) (sRet (fTup (fCons (ret (.str "made")) (fCons (fCB oTuple [(.e (fLst q_l_read_1))]) fNil)))) sNil)
    (sSeq (sIf (tOrM (fB (fDninD (fOp oIx (.v 1) (.e (ret (.int 0)))) (fVar 3))) (fB (fOp oNE (.e (fOp oDix (.v 3) (.e (fOp oIx (.v 1) (.e (ret (.int 0))))))) (.e (fCB oLen [(.v 2)]))))) (sRet (ret .none)) sNil)
    (sRet (fOp oCatT (.e (fTup (fCons (fOp oIx (.v 1) (.e (ret (.int 0)))) fNil))) (.e (fCB oTuple [(.v 2)]))))))))))
noncomputable abbrev F_l_read := runP 5 g_l_read 1
noncomputable def g_l_told : Rho → Fl := (sSeq (sSet 1 (ret .none))
    (sSeq (sTryAs mEx 2 (sSet 1 (fCall F_read_deed (fCons (fVar 0) fNil))) (fun c a ρ => if c ∈ exL then (sSeq (sSet 1 (ret (.str "else")))
    (sIf (tAndM (fB (fIsE 2 a (is_BadText c))) (tAndM (fB (fIsE 2 a (is_ValueError c))) (tNotM (fB (fIsE 2 a (is_BadMinutes c)))))) (sSet 1 (ret .none)) sNil)) ρ else .bad))
    (sRetV 1)))
noncomputable abbrev F_l_told := runP 3 g_l_told 1
noncomputable def b_law_1 : Rho → Fl := (sSet 3 (fCallI 1 F_l_bent_line (fCons (fVar 3) fNil)))
noncomputable def b_law_2 : Rho → Fl := (sSeq (sSet 3 (fCall F_l_line (fCons (fCallI 1 F_l_any_deed fNil) fNil)))
    (sSeq (sFor (fAB oRng1 (fCons (fCallI 1 F_l_pick (fCons (ret (.int 3)) fNil)) fNil)) (gSet 4) b_law_1)
    (sIf (tNotM (fB (fCall F_l_same (fCons (fCall F_l_told (fCons (fVar 3) fNil)) (fCons (fCall F_l_read (fCons (fVar 3) fNil)) fNil))))) (sRet (ret (.bool false))) sNil)))
noncomputable def q_law_1 : M (List PyData) := (fLc (fItL (fVar 5)) (gSet 3) (ret true) (fUn oIsN (.e (fCall F_l_told (fCons (fVar 3) fNil)))) [3])
noncomputable def g_law : Rho → Fl := (sSeq (sFor (fAB oRng1 (fCons (ret (.int 7)) fNil)) (gSet 2) b_law_2)
    (sSeq (sSet 5 (fLst (fLs (fCons (ret (.str "")) (fCons (ret (.str " ")) (fCons (ret (.str "raw ")) (fCons (ret (.str " raw")) (fCons (ret (.str "made")) (fCons (ret (.str "made 1")) (fCons (ret (.str "Raw")) (fCons (ret (.str "raw\n")) (fCons (ret (.str "come 1 2 3")) (fCons (ret (.str "lay 1 2 3")) (fCons (ret (.str "made 1 2 3")) fNil))))))))))))))
    (sRet (fCB oAll [(.e (fLst q_law_1))]))))
end K55
namespace K55
open PySem L2 Fx Mm
variable [Tabz]
def top (i : Nat) : Stmt := PySem.Challenge.pw_drawback_k55_lines_read_or_refused.main.body.getD i (.Pass ⟨0, 0, 0, 0⟩)
abbrev s_number_in : Stmt := top 8
abbrev s_numbers_in : Stmt := top 9
abbrev s_pairs_in : Stmt := top 10
abbrev s_read_deed : Stmt := top 11
abbrev s__law_begin : Stmt := top 13
abbrev s__law_line : Stmt := top 14
abbrev s__law_pick : Stmt := top 15
abbrev s__law_any_number : Stmt := top 16
abbrev s__law_any_deed : Stmt := top 17
abbrev s__law_bent_line : Stmt := top 18
abbrev s__law_same : Stmt := top 19
abbrev s__law_figure : Stmt := top 20
abbrev s__law_figures : Stmt := top 21
abbrev s__law_read : Stmt := top 22
abbrev s__law_told : Stmt := top 23
abbrev s_law : Stmt := top 24
theorem sc_number_in : FnScope ["word", "sign"] ["word"] (defScope s_number_in) := ⟨rfl, rfl, rfl, by decide +kernel, rfl, by decide +kernel, by decide +kernel⟩
theorem sc_numbers_in : FnScope ["words", "word"] ["words"] (defScope s_numbers_in) := ⟨rfl, rfl, rfl, by decide +kernel, rfl, by decide +kernel, by decide +kernel⟩
theorem sc_pairs_in : FnScope ["numbers", "at"] ["numbers"] (defScope s_pairs_in) := ⟨rfl, rfl, rfl, by decide +kernel, rfl, by decide +kernel, by decide +kernel⟩
theorem sc_read_deed : FnScope ["text", "words", "numbers"] ["text"] (defScope s_read_deed) := ⟨rfl, rfl, rfl, by decide +kernel, rfl, by decide +kernel, by decide +kernel⟩
theorem sc__law_begin : FnScope ["_law_script"] ["_law_script"] (defScope s__law_begin) := ⟨rfl, rfl, rfl, by decide +kernel, rfl, by decide +kernel, by decide +kernel⟩
theorem sc__law_line : FnScope ["_law_deed", "_law_words", "_law_part", "_law_pair"] ["_law_deed"] (defScope s__law_line) := ⟨rfl, rfl, rfl, by decide +kernel, rfl, by decide +kernel, by decide +kernel⟩
theorem sc__law_pick : FnScope ["_law_draw", "_law_many", "_law_cell", "_law_got"] ["_law_draw", "_law_many"] (defScope s__law_pick) := ⟨rfl, rfl, rfl, by decide +kernel, rfl, by decide +kernel, by decide +kernel⟩
theorem sc__law_any_number : FnScope ["_law_draw"] ["_law_draw"] (defScope s__law_any_number) := ⟨rfl, rfl, rfl, by decide +kernel, rfl, by decide +kernel, by decide +kernel⟩
theorem sc__law_any_deed : FnScope ["_law_draw", "_law_names", "_law_name", "_law_pairs", "_law_k", "_law_kind", "_law_many"] ["_law_draw"] (defScope s__law_any_deed) := ⟨rfl, rfl, rfl, by decide +kernel, rfl, by decide +kernel, by decide +kernel⟩
theorem sc__law_bent_line : FnScope ["_law_draw", "_law_line_here", "_law_signs", "_law_words", "_law_at", "_law_way", "_law_odd"] ["_law_draw", "_law_line_here"] (defScope s__law_bent_line) := ⟨rfl, rfl, rfl, by decide +kernel, rfl, by decide +kernel, by decide +kernel⟩
theorem sc__law_same : FnScope ["_law_found", "_law_due", "_law_one", "_law_other"] ["_law_found", "_law_due"] (defScope s__law_same) := ⟨rfl, rfl, rfl, by decide +kernel, rfl, by decide +kernel, by decide +kernel⟩
theorem sc__law_figure : FnScope ["_law_word", "_law_sign"] ["_law_word"] (defScope s__law_figure) := ⟨rfl, rfl, rfl, by decide +kernel, rfl, by decide +kernel, by decide +kernel⟩
theorem sc__law_figures : FnScope ["_law_words", "_law_found", "_law_word"] ["_law_words"] (defScope s__law_figures) := ⟨rfl, rfl, rfl, by decide +kernel, rfl, by decide +kernel, by decide +kernel⟩
theorem sc__law_read : FnScope ["_law_line_here", "_law_words", "_law_numbers", "_law_sizes", "_law_at"] ["_law_line_here"] (defScope s__law_read) := ⟨rfl, rfl, rfl, by decide +kernel, rfl, by decide +kernel, by decide +kernel⟩
theorem sc__law_told : FnScope ["_law_line_here", "_law_found", "e"] ["_law_line_here"] (defScope s__law_told) := ⟨rfl, rfl, rfl, by decide +kernel, rfl, by decide +kernel, by decide +kernel⟩
theorem sc_law : FnScope ["_law_script", "_law_draw", "_law_k", "_law_line_here", "_law_turn", "_law_odd"] ["_law_script"] (defScope s_law) := ⟨rfl, rfl, rfl, by decide +kernel, rfl, by decide +kernel, by decide +kernel⟩
def fa : List Fq := [.f (.free "len"),
  .f (.int "MOST_FIGURES" 7),
  .f (.str "FIGURES" "0123456789"),
  .f (.free "all"),
  .f (.exc "BadText"),
  .f (.glo "BadText"),
  .f (.free "int"),
  .f (.free "range"),
  .f (.free "tuple"),
  .f (.glo "SIZES"),
  .f (.free "isinstance"),
  .f (.free "str"),
  .f (.free "bool"),
  .f (.free "list"),
  .f (.free "zip"),
  .f (.glo "CustomsError"),
  .f (.free "ValueError"),
  .f (.glo "BadMinutes"),
  .f (.glo "number_in"),
  .f (.glo "numbers_in"),
  .f (.glo "pairs_in"),
  .f (.glo "read_deed"),
  .f (.glo "_law_begin"),
  .f (.glo "_law_line"),
  .f (.glo "_law_pick"),
  .f (.glo "_law_any_number"),
  .f (.glo "_law_any_deed"),
  .f (.glo "_law_bent_line"),
  .f (.glo "_law_same"),
  .f (.glo "_law_figure"),
  .f (.glo "_law_figures"),
  .f (.glo "_law_read"),
  .f (.glo "_law_told"),
  .f (.glo "law"),
  .f (.exm "BadText" "CustomsError" true),
  .f (.exm "BadMinutes" "CustomsError" true),
  .xc "BadText",
  .xc "BadMinutes",
  .kx "BadText" "BadMinutes" false,
  .kx "BadText" "BadText" true,
  .kx "BadMinutes" "BadMinutes" true,
  .kx "BadMinutes" "BadText" false,
  .kv "BadText" "ValueError" true,
  .kv "BadMinutes" "ValueError" true]
def tf : List Str := []
def fn : List He.FnD := [mkD "number_in" s_number_in, mkD "numbers_in" s_numbers_in, mkD "pairs_in" s_pairs_in, mkD "read_deed" s_read_deed, mkD "_law_begin" s__law_begin, mkD "_law_line" s__law_line, mkD "_law_pick" s__law_pick, mkD "_law_any_number" s__law_any_number, mkD "_law_any_deed" s__law_any_deed, mkD "_law_bent_line" s__law_bent_line, mkD "_law_same" s__law_same, mkD "_law_figure" s__law_figure, mkD "_law_figures" s__law_figures, mkD "_law_read" s__law_read, mkD "_law_told" s__law_told, mkD "law" s_law]
def tsD : List DTab := [("SIZES", dc_SIZES)]
section
variable {P : Program} {w : World} {K : PySem.W.Frag} {mg : Str → Option Value} {base : Heap} [TabD tsD w K]
omit [Tabz] in
theorem dic_SIZES : DicOk K w (He.ga K "SIZES") dc_SIZES := TabD.tab (ts := tsD) ("SIZES", dc_SIZES) (by unfold tsD; simp)
theorem hM (T : Tp fa fn tf K mg base) : ∀ c b, mEx c = some b → PySem.W.exmOne K (.ref (He.ga K c)) (.ref (He.ga K "CustomsError")) = some b := by
  intro c b h
  unfold mEx at h
  split at h
  · rename_i hc
    cases h
    simp only [exL, List.mem_cons, List.not_mem_nil, or_false] at hc
    rcases hc with rfl | rfl
    · exact T.exm 34
    · exact T.exm 35
  · cases h
theorem hX (T : Tp fa fn tf K mg base) (c : Str) (hc : c ∈ exL) : ExcC K (He.ga K c) := by
  simp only [exL, List.mem_cons, List.not_mem_nil, or_false] at hc
  rcases hc with rfl | rfl
  · exact T.xc 36
  · exact T.xc 37
theorem h_BadMinutes (T : Tp fa fn tf K mg base) (c : Str) (hc : c ∈ exL) : PySem.W.kitOne K (.ref (He.ga K c)) (.ref (He.ga K "BadMinutes")) = some (is_BadMinutes c) := by
  simp only [exL, List.mem_cons, List.not_mem_nil, or_false] at hc
  rcases hc with rfl | rfl
  · exact (T.kx 38).trans (congrArg some (by decide +kernel))
  · exact (T.kx 40).trans (congrArg some (by decide +kernel))
theorem h_BadText (T : Tp fa fn tf K mg base) (c : Str) (hc : c ∈ exL) : PySem.W.kitOne K (.ref (He.ga K c)) (.ref (He.ga K "BadText")) = some (is_BadText c) := by
  simp only [exL, List.mem_cons, List.not_mem_nil, or_false] at hc
  rcases hc with rfl | rfl
  · exact (T.kx 39).trans (congrArg some (by decide +kernel))
  · exact (T.kx 41).trans (congrArg some (by decide +kernel))
theorem h_ValueError (T : Tp fa fn tf K mg base) (c : Str) (hc : c ∈ exL) : PySem.W.kitOne K (.ref (He.ga K c)) (.type "ValueError") = some (is_ValueError c) := by
  simp only [exL, List.mem_cons, List.not_mem_nil, or_false] at hc
  rcases hc with rfl | rfl
  · exact T.kv 42
  · exact T.kv 43
theorem c_number_in (T : Tp fa fn tf K mg base) : Cal P w K mg base "number_in" 1 ["word"] (spP (He.ga K) 1 F_number_in) := by
  refine cal_pure (x := "number_in") (sd := s_number_in) (N := ["word", "sign"]) (ps := ["word"]) (k := 0) (g := g_number_in) T.toTop 18 0 rfl rfl sc_number_in (fun _ _ _ _ _ _ => ln1 fun _ => by kernel_rfl) (fun cdv A outer s H E hr => ?_)
  exact (fss_cons (fs_if (ft_pw (fw_or (ft_cmp (op_EQ (u64s hr)) rd_EQ (vO 0) (eO fe_str) (nomark _)) (fw_or (ft_cmp op_gt rd_gt (eO (fe_len (by rfl) (T.free 0) (oa_cons (vO 0) oa_nil))) (eO (fe_globI (by rfl) (T.int 1).choose_spec)) (nomark _)) (fw_or1 (ft_not (ft_val (fe_all rfl (by rfl) (T.free 3) (oa_cons (eO (fe_ofL (fl_lc (own := [("sign", 1)]) rfl sc_number_in.nd (blkOk_by (own := [("sign", 1)]) (N := ["word", "sign"]) (sc := (defScope s_number_in)) (by decide +kernel)) (by decide) (fi_str (fe_var 0)) (fun _ _ _ _ _ => (fg_name 1 sc_number_in.nd)) (fun _ _ _ _ _ => fts_nil) (fun _ _ _ _ _ => (fe_cmp op_in_str rd_InS (vO 1) (eO (fe_globS (by rfl) (T.str 2).choose_spec)) rfl))))) oa_nil)))))))) (fss_one (fs_raise rfl (takes_of rfl rfl rfl rfl) PySem.F.excBase_ValueError (T.exc 4).1 (T.glo 5) (T.exc 4).2.1 (raises_own (T.exc 4).2.2.1 (T.exc 4).2.2.2) (by rfl))) fss_nil)
      (fss_cons (fs_if (ft_pw (fw_and (ft_cmp (op_EQ (u64s hr)) rd_EQ (eO (fe_ix (vO 0) (eO fe_int))) (eO fe_str) (nomark _)) (fw_and1 (ft_cmp op_gt rd_gt (eO (fe_len (by rfl) (T.free 0) (oa_cons (vO 0) oa_nil))) (eO fe_int) (nomark _))))) (fss_one (fs_raise rfl (takes_of rfl rfl rfl rfl) PySem.F.excBase_ValueError (T.exc 4).1 (T.glo 5) (T.exc 4).2.1 (raises_own (T.exc 4).2.2.1 (T.exc 4).2.2.2) (by rfl))) fss_nil)
      (fss_one (fs_ret (fe_intS (by rfl) (T.free 6) (oa_cons (vO 0) oa_nil))))))
theorem c_numbers_in (T : Tp fa fn tf K mg base) : Cal P w K mg base "numbers_in" 2 ["words"] (spP (He.ga K) 1 F_numbers_in) := by
  refine cal_pure (x := "numbers_in") (sd := s_numbers_in) (N := ["words", "word"]) (ps := ["words"]) (k := 1) (g := g_numbers_in) T.toTop 19 1 rfl rfl sc_numbers_in (fun _ _ _ _ _ _ => ln1 fun _ => by kernel_rfl) (fun cdv A outer s H E hr => ?_)
  exact (fss_one (fs_retL rfl (fl_lcX (own := [("word", 1)]) rfl sc_numbers_in.nd (blkOk_by (own := [("word", 1)]) (N := ["words", "word"]) (sc := (defScope s_numbers_in)) (by decide +kernel)) (by decide +kernel) (by decide) rfl rfl (takes_of rfl rfl rfl rfl) (fun _ _ _ _ h => h) (fun _ _ _ _ h => h) (fi_list (fe_var 0)) (fun _ _ _ _ _ => (fg_name 1 sc_numbers_in.nd)) (fun _ _ _ _ _ => fts_nil) (fun _ _ _ _ _ => (fe_calX (c_number_in (w := w) (K := K) T) (hr.mono (by decide)) (by rfl) (fa_cons (fe_var 1) fa_nil))))))
theorem c_pairs_in (T : Tp fa fn tf K mg base) : Cal P w K mg base "pairs_in" 1 ["numbers"] (spP (He.ga K) 1 F_pairs_in) := by
  refine cal_pure (x := "pairs_in") (sd := s_pairs_in) (N := ["numbers", "at"]) (ps := ["numbers"]) (k := 0) (g := g_pairs_in) T.toTop 20 2 rfl rfl sc_pairs_in (fun _ _ _ _ _ _ => ln1 fun _ => by kernel_rfl) (fun cdv A outer s H E hr => ?_)
  exact (fss_one (fs_ret (fe_tuple (by rfl) (T.free 8) (oa_cons (eO (fe_ofL (fl_lc (own := [("at", 1)]) rfl sc_pairs_in.nd (blkOk_by (own := [("at", 1)]) (N := ["numbers", "at"]) (sc := (defScope s_pairs_in)) (by decide +kernel)) (by decide) (fi_rng1 (by rfl) (T.free 7) (fa_cons (fe_len (by rfl) (T.free 0) (oa_cons (vO 0) oa_nil)) fa_nil)) (fun _ _ _ _ _ => (fg_name 1 sc_pairs_in.nd)) (fun _ _ _ _ _ => (fts_one (ft_cmp (op_EQ (u64s hr)) rd_EQ (eO (fe_mod (vO 1) (eO fe_int))) (eO fe_int) (nomark _)))) (fun _ _ _ _ _ => (fe_tup (fa_cons (fe_ix (vO 0) (vO 1)) (fa_cons (fe_ix (vO 0) (eO (fe_add (vO 1) (eO fe_int)))) fa_nil))))))) oa_nil))))
theorem c_read_deed (T : Tp fa fn tf K mg base) : Cal P w K mg base "read_deed" 3 ["text"] (spP (He.ga K) 1 F_read_deed) := by
  refine cal_pure (x := "read_deed") (sd := s_read_deed) (N := ["text", "words", "numbers"]) (ps := ["text"]) (k := 2) (g := g_read_deed) T.toTop 21 3 rfl rfl sc_read_deed (fun _ _ _ _ _ _ => ln1 fun _ => by kernel_rfl) (fun cdv A outer s H E hr => ?_)
  exact (fss_cons (fs_set 1 sc_read_deed.nd (by decide) (fe_ofL (fl_split (vO 0) (oa_cons (eO fe_str) oa_nil))))
      (fss_cons (fs_set 2 sc_read_deed.nd (by decide) (fe_ofL (fl_cal (c_numbers_in (w := w) (K := K) T) (hr.mono (by decide)) (by rfl) (takes_of rfl rfl rfl rfl) (fa_cons (fe_ofL (fl_slice (vO 1) (fp_some fe_int) fp_none)) fa_nil))))
      (fss_cons (fs_if (ft_cmp (op_EQ (u64s hr)) rd_EQ (eO (fe_ix (vO 1) (eO fe_int))) (eO fe_str) (nomark _)) (fss_cons (fs_if (ft_pw (fw_or (ft_cmp (op_EQ (u64s hr)) rd_EQ (eO (fe_len (by rfl) (T.free 0) (oa_cons (vO 2) oa_nil))) (eO fe_int) (nomark _)) (fw_or1 (ft_cmp (op_EQ (u64s hr)) rd_EQ (eO (fe_mod (eO (fe_len (by rfl) (T.free 0) (oa_cons (vO 2) oa_nil))) (eO fe_int))) (eO fe_int) (nomark _))))) (fss_one (fs_raise rfl (takes_of rfl rfl rfl rfl) PySem.F.excBase_ValueError (T.exc 4).1 (T.glo 5) (T.exc 4).2.1 (raises_own (T.exc 4).2.2.1 (T.exc 4).2.2.2) (by rfl))) fss_nil)
      (fss_one (fs_ret (fe_tup (fa_cons fe_str (fa_cons (fe_cal (c_pairs_in (w := w) (K := K) T) (hr.mono (by decide)) (by rfl) (takes_of rfl rfl rfl rfl) (fa_cons (fe_var 2) fa_nil)) fa_nil)))))) fss_nil)
      (fss_cons (fs_if (ft_pw (fw_or (ft_ninK (dic_SIZES (w := w) (K := K)) (by rfl) (T.glo 9) (eO (fe_ix (vO 1) (eO fe_int)))) (fw_or1 (ft_cmp (op_NE (u64s hr)) rd_NE (eO (fe_itK (dic_SIZES (w := w) (K := K)) (by rfl) (T.glo 9) (eO (fe_ix (vO 1) (eO fe_int))))) (eO (fe_len (by rfl) (T.free 0) (oa_cons (vO 2) oa_nil))) (nomark _))))) (fss_one (fs_raise rfl (takes_of rfl rfl rfl rfl) PySem.F.excBase_ValueError (T.exc 4).1 (T.glo 5) (T.exc 4).2.1 (raises_own (T.exc 4).2.2.1 (T.exc 4).2.2.2) (by rfl))) fss_nil)
      (fss_one (fs_ret (fe_catT (eO (fe_tup (fa_cons (fe_ix (vO 1) (eO fe_int)) fa_nil))) (eO (fe_tuple (by rfl) (T.free 8) (oa_cons (vO 2) oa_nil))))))))))
theorem c__law_begin (T : Tp fa fn tf K mg base) : Cal P w K mg base "_law_begin" 1 ["_law_script"] (spBegin K) := by
  have F := T.def_ (x := "_law_begin") (st := s__law_begin) 4
  exact ⟨_, _, ok_begin F sc__law_begin (T.free 13) (.inl rfl) (fun _ _ _ _ _ _ => by rfl) rfl, T.glo 22, F.kp, F.binds (fun _ _ _ _ _ _ us hl => match us, hl with | [_], _ => rfl)⟩
theorem c__law_line (T : Tp fa fn tf K mg base) : Cal P w K mg base "_law_line" 1 ["_law_deed"] (spP (He.ga K) 1 F_l_line) := by
  refine cal_pure (x := "_law_line") (sd := s__law_line) (N := ["_law_deed", "_law_words", "_law_part", "_law_pair"]) (ps := ["_law_deed"]) (k := 0) (g := g_l_line) T.toTop 23 5 rfl rfl sc__law_line (fun _ _ _ _ _ _ => ln1 fun _ => by kernel_rfl) (fun cdv A outer s H E hr => ?_)
  exact (fss_cons (fs_setL 1 sc__law_line.nd (by decide) (fl_lst (fa_cons (fe_ix (vO 0) (eO fe_int)) fa_nil)))
      (fss_cons (fs_for (passes_of rfl) rfl (by decide) (fi_tup (fe_sliceA (fe_var 0) (fp_some fe_int) fp_none)) (fg_name 2 sc__law_line.nd) (fss_one (fs_if (ft_val (fe_isi (T := "tuple") rfl (by rfl) (T.free 10) (by rfl) (T.free 8) (by decide +kernel) (vO 2))) (fss_one (fs_for (passes_of rfl) rfl (by decide) (fi_tup (fe_var 2)) (fg_name 3 sc__law_line.nd) (fss_one (fs_setL 1 sc__law_line.nd (by decide) (fl_cat (vO 1) (eO (fe_ofL (fl_lst (fa_cons (fe_strI (by rfl) (T.free 11) (oa_cons (eO (fe_ix (vO 3) (eO fe_int))) oa_nil)) (fa_cons (fe_strI (by rfl) (T.free 11) (oa_cons (eO (fe_ix (vO 3) (eO fe_int))) oa_nil)) fa_nil)))))))))) (fss_one (fs_append 1 (fe_strI (by rfl) (T.free 11) (oa_cons (vO 2) oa_nil)))))))
      (fss_one (fs_ret (fe_join (eO fe_str) (oa_cons (vO 1) oa_nil))))))
theorem c__law_pick (T : Tp fa fn tf K mg base) : Cal P w K mg base "_law_pick" 1 ["_law_draw", "_law_many"] (spI (He.ga K) 2 F_l_pick) := by
  refine cal_io (x := "_law_pick") (sd := s__law_pick) (N := ["_law_draw", "_law_many", "_law_cell", "_law_got"]) (ps := ["_law_draw", "_law_many"]) (k := 0) (g := g_l_pick) T.toTop 24 6 rfl rfl sc__law_pick (fun _ _ _ _ _ _ => ln2 fun _ _ => by kernel_rfl) (fun cdv A outer s H E hr => ?_)
  exact (fss_cons (fs_if (ft_pw (fw_and (ft_cmp op_lt rd_lt (eO (fe_ix (vO 0) (eO fe_int))) (vO 1) (nomark _)) (fw_and1 (ft_cmp op_lt rd_lt (eO (fe_ix (vO 0) (eO fe_int))) (eO (fe_len (by rfl) (T.free 0) (oa_cons (eO (fe_ix (vO 0) (eO fe_int))) oa_nil))) (nomark _))))) (fss_cons (fs_set 2 sc__law_pick.nd (by decide) (fe_ix (eO (fe_ix (vO 0) (eO fe_int))) (eO (fe_ix (vO 0) (eO fe_int)))))
      (fss_cons (fs_setIx 0 (fe_add (eO (fe_ix (vO 0) (eO fe_int))) (eO fe_int)) fe_int)
      (fss_cons (fs_setIx 0 fe_int fe_int)
      (fss_one (fs_if (ft_cmp op_ge rd_ge (vO 2) (eO (fe_pow (eO fe_int) (eO fe_int))) (nomark _)) (fss_one (fs_setIx 0 (fe_var 2) fe_int)) (fss_one (fs_setIx 0 (fe_mod (eO (fe_add (eO (fe_ix (vO 0) (eO fe_int))) (vO 2))) (eO fe_int)) fe_int))))))) fss_nil)
      (fss_cons (fs_if (ft_cmp op_ge rd_ge (eO (fe_ix (vO 0) (eO fe_int))) (vO 1) (nomark _)) (fss_cons (fs_set 3 sc__law_pick.nd (by decide) (fe_mod (eO (fe_ix (vO 0) (eO fe_int))) (vO 1)))
      (fss_cons (fs_setIx 0 (fe_div (eO (fe_ix (vO 0) (eO fe_int))) (vO 1)) fe_int)
      (fss_one (fs_retV0 3 rfl (by decide))))) fss_nil)
      (fss_cons (fs_setIx 0 (fe_add (eO (fe_ix (vO 0) (eO fe_int))) (eO fe_int)) fe_int)
      (fss_cons (fs_setIx 0 (fe_mod (eO (fe_add (eO (fe_add (eO (fe_pow (eO (fe_ix (vO 0) (eO fe_int))) (eO fe_int))) (eO (fe_mul (eO fe_int) (eO (fe_ix (vO 0) (eO fe_int))))))) (eO fe_int))) (eO fe_int)) fe_int)
      (fss_one (fs_ret (fe_mod (eO (fe_div (eO (fe_ix (vO 0) (eO fe_int))) (eO fe_int))) (vO 1))))))))
theorem c__law_any_number (T : Tp fa fn tf K mg base) : Cal P w K mg base "_law_any_number" 2 ["_law_draw"] (spI (He.ga K) 1 F_l_any_number) := by
  refine cal_io (x := "_law_any_number") (sd := s__law_any_number) (N := ["_law_draw"]) (ps := ["_law_draw"]) (k := 1) (g := g_l_any_number) T.toTop 25 7 rfl rfl sc__law_any_number (fun _ _ _ _ _ _ => ln1 fun _ => by kernel_rfl) (fun cdv A outer s H E hr => ?_)
  exact (fss_one (fs_ret (fe_calI 0 (c__law_pick (w := w) (K := K) T) (hr.mono (by decide)) (by rfl) (takes_of rfl rfl rfl rfl) (fa_cons (fe_ix (eO (fe_tup (fa_cons fe_int (fa_cons fe_int (fa_cons fe_int (fa_cons (fe_pow (eO fe_int) (eO fe_int)) fa_nil)))))) (eO (fe_calI 0 (c__law_pick (w := w) (K := K) T) (hr.mono (by decide)) (by rfl) (takes_of rfl rfl rfl rfl) (fa_cons fe_int fa_nil)))) fa_nil))))
theorem c__law_any_deed (T : Tp fa fn tf K mg base) : Cal P w K mg base "_law_any_deed" 3 ["_law_draw"] (spI (He.ga K) 1 F_l_any_deed) := by
  refine cal_io (x := "_law_any_deed") (sd := s__law_any_deed) (N := ["_law_draw", "_law_names", "_law_name", "_law_pairs", "_law_k", "_law_kind", "_law_many"]) (ps := ["_law_draw"]) (k := 2) (g := g_l_any_deed) T.toTop 26 8 rfl rfl sc__law_any_deed (fun _ _ _ _ _ _ => ln1 fun _ => by kernel_rfl) (fun cdv A outer s H E hr => ?_)
  exact (fss_cons (fs_set 1 sc__law_any_deed.nd (by decide) (fe_ofL (fl_lst (fa_cons fe_str (fa_cons fe_str (fa_cons fe_str (fa_cons fe_str (fa_cons fe_str (fa_cons fe_str (fa_cons fe_str (fa_cons fe_str fa_nil)))))))))))
      (fss_cons (fs_set 2 sc__law_any_deed.nd (by decide) (fe_ix (vO 1) (eO (fe_calI 0 (c__law_pick (w := w) (K := K) T) (hr.mono (by decide)) (by rfl) (takes_of rfl rfl rfl rfl) (fa_cons fe_int fa_nil)))))
      (fss_cons (fs_if (ft_cmp (op_EQ (u64s hr)) rd_EQ (vO 2) (eO fe_str) (nomark _)) (fss_cons (fs_setL 3 sc__law_any_deed.nd (by decide) (fl_lst fa_nil))
      (fss_cons (fs_for (passes_of rfl) rfl (by decide) (fi_rng1 (by rfl) (T.free 7) (fa_cons (fe_add (eO fe_int) (eO (fe_calI 0 (c__law_pick (w := w) (K := K) T) (hr.mono (by decide)) (by rfl) (takes_of rfl rfl rfl rfl) (fa_cons fe_int fa_nil)))) fa_nil)) (fg_name 4 sc__law_any_deed.nd) (fss_cons (fs_set 5 sc__law_any_deed.nd (by decide) (fe_calI 0 (c__law_any_number (w := w) (K := K) T) (hr.mono (by decide)) (by rfl) (takes_of rfl rfl rfl rfl) fa_nil))
      (fss_one (fs_append 3 (fe_tup (fa_cons (fe_var 5) (fa_cons (fe_calI 0 (c__law_any_number (w := w) (K := K) T) (hr.mono (by decide)) (by rfl) (takes_of rfl rfl rfl rfl) fa_nil) fa_nil)))))))
      (fss_one (fs_ret (fe_tup (fa_cons fe_str (fa_cons (fe_tuple (by rfl) (T.free 8) (oa_cons (vO 3) oa_nil)) fa_nil))))))) fss_nil)
      (fss_cons (fs_set 6 sc__law_any_deed.nd (by decide) (fe_dgD (u2s hr) (fe_frz (fn_disp (nds_cons (fn_E fe_int) (nds_cons (fn_E fe_int) (nds_cons (fn_E fe_int) (nds_cons (fn_E fe_int) nds_nil)))) rfl rfl (by decide) (by decide) (by decide))) (fe_var 2) fe_int))
      (fss_one (fs_ret (fe_catT (eO (fe_tup (fa_cons (fe_var 2) fa_nil))) (eO (fe_tuple (by rfl) (T.free 8) (oa_cons (eO (fe_ofL (fl_lc (own := [("_law_k", 4)]) rfl sc__law_any_deed.nd (blkOk_by (own := [("_law_k", 4)]) (N := ["_law_draw", "_law_names", "_law_name", "_law_pairs", "_law_k", "_law_kind", "_law_many"]) (sc := (defScope s__law_any_deed)) (by decide +kernel)) (by decide) (fi_rng1 (by rfl) (T.free 7) (fa_cons (fe_var 6) fa_nil)) (fun _ _ _ _ _ => (fg_name 4 sc__law_any_deed.nd)) (fun _ _ _ _ _ => fts_nil) (fun _ _ _ _ _ => (fe_calI 0 (c__law_any_number (w := w) (K := K) T) (hr.mono (by decide)) (by rfl) takes0 fa_nil))))) oa_nil))))))))))
theorem c__law_bent_line (T : Tp fa fn tf K mg base) : Cal P w K mg base "_law_bent_line" 2 ["_law_draw", "_law_line_here"] (spI (He.ga K) 2 F_l_bent_line) := by
  refine cal_io (x := "_law_bent_line") (sd := s__law_bent_line) (N := ["_law_draw", "_law_line_here", "_law_signs", "_law_words", "_law_at", "_law_way", "_law_odd"]) (ps := ["_law_draw", "_law_line_here"]) (k := 1) (g := g_l_bent_line) T.toTop 27 9 rfl rfl sc__law_bent_line (fun _ _ _ _ _ _ => ln2 fun _ _ => by kernel_rfl) (fun cdv A outer s H E hr => ?_)
  exact (fss_cons (fs_set 2 sc__law_bent_line.nd (by decide) fe_str)
      (fss_cons (fs_setL 3 sc__law_bent_line.nd (by decide) (fl_split (vO 1) (oa_cons (eO fe_str) oa_nil)))
      (fss_cons (fs_set 4 sc__law_bent_line.nd (by decide) (fe_calI 0 (c__law_pick (w := w) (K := K) T) (hr.mono (by decide)) (by rfl) (takes_of rfl rfl rfl rfl) (fa_cons (fe_len (by rfl) (T.free 0) (oa_cons (vO 3) oa_nil)) fa_nil)))
      (fss_cons (fs_set 5 sc__law_bent_line.nd (by decide) (fe_calI 0 (c__law_pick (w := w) (K := K) T) (hr.mono (by decide)) (by rfl) (takes_of rfl rfl rfl rfl) (fa_cons fe_int fa_nil)))
      (fss_cons (fs_if (ft_cmp (op_EQ (u64s hr)) rd_EQ (vO 5) (eO fe_int) (nomark _)) (fss_one (fs_insert 3 (fe_var 4) (fe_ix (vO 3) (vO 4)))) fss_nil)
      (fss_cons (fs_if (ft_cmp (op_EQ (u64s hr)) rd_EQ (vO 5) (eO fe_int) (nomark _)) (fss_one (fs_expr (fe_popAt 3 (fe_var 4)))) fss_nil)
      (fss_cons (fs_if (ft_cmp (op_EQ (u64s hr)) rd_EQ (vO 5) (eO fe_int) (nomark _)) (fss_one (fs_setIx 3 (fe_catS (eO fe_str) (eO (fe_ix (vO 3) (vO 4)))) (fe_var 4))) fss_nil)
      (fss_cons (fs_if (ft_cmp (op_EQ (u64s hr)) rd_EQ (vO 5) (eO fe_int) (nomark _)) (fss_one (fs_setIx 3 (fe_catS (eO (fe_ix (vO 3) (vO 4))) (eO (fe_repS (eO (fe_ix (eO fe_str) (eO (fe_calI 0 (c__law_pick (w := w) (K := K) T) (hr.mono (by decide)) (by rfl) (takes_of rfl rfl rfl rfl) (fa_cons fe_int fa_nil))))) (eO (fe_add (eO fe_int) (eO (fe_calI 0 (c__law_pick (w := w) (K := K) T) (hr.mono (by decide)) (by rfl) (takes_of rfl rfl rfl rfl) (fa_cons fe_int fa_nil)))))))) (fe_var 4))) fss_nil)
      (fss_cons (fs_if (ft_cmp (op_EQ (u64s hr)) rd_EQ (vO 5) (eO fe_int) (nomark _)) (fss_cons (fs_set 6 sc__law_bent_line.nd (by decide) (fe_ofL (fl_lst (fa_cons fe_str (fa_cons fe_str (fa_cons fe_str (fa_cons fe_str (fa_cons fe_str (fa_cons fe_str (fa_cons fe_str (fa_cons fe_str (fa_cons fe_str (fa_cons fe_str (fa_cons fe_str (fa_cons fe_str (fa_cons fe_str fa_nil))))))))))))))))
      (fss_one (fs_setIx 3 (fe_ix (vO 6) (eO (fe_calI 0 (c__law_pick (w := w) (K := K) T) (hr.mono (by decide)) (by rfl) (takes_of rfl rfl rfl rfl) (fa_cons fe_int fa_nil)))) (fe_var 4)))) fss_nil)
      (fss_cons (fs_set 1 sc__law_bent_line.nd (by decide) (fe_join (eO fe_str) (oa_cons (vO 3) oa_nil)))
      (fss_cons (fs_if (ft_cmp op_gt rd_gt (vO 5) (eO fe_int) (nomark _)) (fss_cons (fs_set 4 sc__law_bent_line.nd (by decide) (fe_calI 0 (c__law_pick (w := w) (K := K) T) (hr.mono (by decide)) (by rfl) (takes_of rfl rfl rfl rfl) (fa_cons (fe_add (eO (fe_len (by rfl) (T.free 0) (oa_cons (vO 1) oa_nil))) (eO fe_int)) fa_nil)))
      (fss_one (fs_set 1 sc__law_bent_line.nd (by decide) (fe_catS (eO (fe_catS (eO (fe_sliceS (fe_var 1) fp_none (fp_some (fe_var 4)))) (eO (fe_ix (vO 2) (eO (fe_calI 0 (c__law_pick (w := w) (K := K) T) (hr.mono (by decide)) (by rfl) (takes_of rfl rfl rfl rfl) (fa_cons (fe_len (by rfl) (T.free 0) (oa_cons (vO 2) oa_nil)) fa_nil))))))) (eO (fe_sliceS (fe_var 1) (fp_some (fe_add (vO 4) (eO (fe_calI 0 (c__law_pick (w := w) (K := K) T) (hr.mono (by decide)) (by rfl) (takes_of rfl rfl rfl rfl) (fa_cons fe_int fa_nil))))) fp_none)))))) fss_nil)
      (fss_one (fs_retV0 1 rfl (by decide))))))))))))))
theorem cr__law_same (T : Tp fa fn tf K mg base) : ∀ n, Cal P w K mg base "_law_same" n ["_law_found", "_law_due"] (spP (He.ga K) 2 (F_l_same_at n))
  | 0 => cal_bad T.toTop 28 10 rfl rfl (fun _ _ _ _ _ _ => ln2 fun _ _ => by kernel_rfl) 0
  | n + 1 => by
    have ih : Cal P w K mg base "_law_same" n ["_law_found", "_law_due"] (spP (He.ga K) 2 (F_l_same_at n)) := cr__law_same T n
    refine cal_pure (x := "_law_same") (sd := s__law_same) (N := ["_law_found", "_law_due", "_law_one", "_law_other"]) (ps := ["_law_found", "_law_due"]) (k := n) (g := (g_l_same (F_l_same_at n))) T.toTop 28 10 rfl rfl sc__law_same (fun _ _ _ _ _ _ => ln2 fun _ _ => by kernel_rfl) (fun cdv A outer s H E hr => ?_)
    exact (fss_cons (fs_if (ft_isN (vO 1)) (fss_one (fs_ret (fe_isN (vO 0)))) fss_nil)
      (fss_cons (fs_if (ft_pw (fw_or (ft_val (fe_isi (T := "bool") rfl (by rfl) (T.free 10) (by rfl) (T.free 12) (by decide +kernel) (vO 1))) (fw_or1 (ft_val (fe_isi (T := "bool") rfl (by rfl) (T.free 10) (by rfl) (T.free 12) (by decide +kernel) (vO 0)))))) (fss_one (fs_ret (fe_and (fe_isi (T := "bool") rfl (by rfl) (T.free 10) (by rfl) (T.free 12) (by decide +kernel) (vO 1)) (fe_and (fe_isi (T := "bool") rfl (by rfl) (T.free 10) (by rfl) (T.free 12) (by decide +kernel) (vO 0)) (fe_one (fe_cmp (op_EQ (u64s hr)) rd_EQ (vO 0) (vO 1) (nomark _))))))) fss_nil)
      (fss_cons (fs_if (ft_val (fe_isi2 (T := "int") (U := "str") rfl rfl (by rfl) (T.free 10) (by rfl) (T.free 6) (by decide +kernel) (by rfl) (T.free 11) (by decide +kernel) (vO 1))) (fss_one (fs_ret (fe_and (fe_cmp (op_EQ (u64s hr)) rd_EQ (eO (fe_isi (T := "int") rfl (by rfl) (T.free 10) (by rfl) (T.free 6) (by decide +kernel) (vO 0))) (eO (fe_isi (T := "int") rfl (by rfl) (T.free 10) (by rfl) (T.free 6) (by decide +kernel) (vO 1))) (nomark _)) (fe_and (fe_isi2 (T := "int") (U := "str") rfl rfl (by rfl) (T.free 10) (by rfl) (T.free 6) (by decide +kernel) (by rfl) (T.free 11) (by decide +kernel) (vO 0)) (fe_one (fe_cmp (op_EQ (u64s hr)) rd_EQ (vO 0) (vO 1) (nomark _))))))) fss_nil)
      (fss_cons (fs_if (ft_pw (fw_or (ft_cmp (op_NE (u64s hr)) rd_NE (eO (fe_isi (T := "list") rfl (by rfl) (T.free 10) (by rfl) (T.free 13) (by decide +kernel) (vO 0))) (eO (fe_isi (T := "list") rfl (by rfl) (T.free 10) (by rfl) (T.free 13) (by decide +kernel) (vO 1))) (nomark _)) (fw_or1 (ft_cmp (op_NE (u64s hr)) rd_NE (eO (fe_isi (T := "tuple") rfl (by rfl) (T.free 10) (by rfl) (T.free 8) (by decide +kernel) (vO 0))) (eO (fe_isi (T := "tuple") rfl (by rfl) (T.free 10) (by rfl) (T.free 8) (by decide +kernel) (vO 1))) (nomark _))))) (fss_one (fs_ret fe_bool)) fss_nil)
      (fss_cons (fs_if (ft_cmp (op_NE (u64s hr)) rd_NE (eO (fe_len (by rfl) (T.free 0) (oa_cons (vO 0) oa_nil))) (eO (fe_len (by rfl) (T.free 0) (oa_cons (vO 1) oa_nil))) (nomark _)) (fss_one (fs_ret fe_bool)) fss_nil)
      (fss_one (fs_ret (fe_all rfl (by rfl) (T.free 3) (oa_cons (eO (fe_ofL (fl_lc (own := [("_law_one", 2), ("_law_other", 3)]) rfl sc__law_same.nd (blkOk_by (own := [("_law_one", 2), ("_law_other", 3)]) (N := ["_law_found", "_law_due", "_law_one", "_law_other"]) (sc := (defScope s__law_same)) (by decide +kernel)) (by decide) (fi_zip (by rfl) (T.free 14) (fa_cons (fe_var 0) (fa_cons (fe_var 1) fa_nil))) (fun _ _ _ _ _ => (fg_tup rfl (fgs_cons (fg_name 2 sc__law_same.nd) (fgs_cons (fg_name 3 sc__law_same.nd) fgs_nil)) (gs_len (gs_len gs_len0)))) (fun _ _ _ _ _ => fts_nil) (fun _ _ _ _ _ => (fe_calF (F_l_same_len n) ih (hr.mono (Nat.le_refl _)) (by rfl) takes0 (fa_cons (fe_var 2) (fa_cons (fe_var 3) fa_nil))))))) oa_nil)))))))))
theorem c__law_same (T : Tp fa fn tf K mg base) : Cal P w K mg base "_law_same" 8 ["_law_found", "_law_due"] (spP (He.ga K) 2 F_l_same) := cr__law_same T 8
theorem c__law_figure (T : Tp fa fn tf K mg base) : Cal P w K mg base "_law_figure" 1 ["_law_word"] (spP (He.ga K) 1 F_l_figure) := by
  refine cal_pure (x := "_law_figure") (sd := s__law_figure) (N := ["_law_word", "_law_sign"]) (ps := ["_law_word"]) (k := 0) (g := g_l_figure) T.toTop 29 11 rfl rfl sc__law_figure (fun _ _ _ _ _ _ => ln1 fun _ => by kernel_rfl) (fun cdv A outer s H E hr => ?_)
  exact (fss_cons (fs_if (ft_not (ft_chain op_lt op_lt rd_lt rd_lt (eO fe_int) (eO (fe_len (by rfl) (T.free 0) (oa_cons (vO 0) oa_nil))) (eO fe_int))) (fss_one (fs_ret fe_none)) fss_nil)
      (fss_cons (fs_for (passes_of rfl) rfl (by decide) (fi_str (fe_var 0)) (fg_name 1 sc__law_figure.nd) (fss_one (fs_if (ft_cmp op_notin_str rd_NInS (vO 1) (eO fe_str) rfl) (fss_one (fs_ret fe_none)) fss_nil)))
      (fss_one (fs_ret (fe_if (ft_cmp (op_EQ (u64s hr)) rd_EQ (eO (fe_strI (by rfl) (T.free 11) (oa_cons (eO (fe_intS (by rfl) (T.free 6) (oa_cons (vO 0) oa_nil))) oa_nil))) (vO 0) (nomark _)) (fe_intS (by rfl) (T.free 6) (oa_cons (vO 0) oa_nil)) fe_none)))))
theorem c__law_figures (T : Tp fa fn tf K mg base) : Cal P w K mg base "_law_figures" 2 ["_law_words"] (spP (He.ga K) 1 F_l_figures) := by
  refine cal_pure (x := "_law_figures") (sd := s__law_figures) (N := ["_law_words", "_law_found", "_law_word"]) (ps := ["_law_words"]) (k := 1) (g := g_l_figures) T.toTop 30 12 rfl rfl sc__law_figures (fun _ _ _ _ _ _ => ln1 fun _ => by kernel_rfl) (fun cdv A outer s H E hr => ?_)
  exact (fss_cons (fs_setLc 1 (own := [("_law_word", 2)]) rfl sc__law_figures.nd (by decide) rfl rfl (sw_true rfl rfl rfl (by decide +kernel)) (blkOk_by (own := [("_law_word", 2)]) (N := ["_law_words", "_law_found", "_law_word"]) (sc := (defScope s__law_figures)) (by decide +kernel)) (by decide) (fi_list (fe_var 0)) (fun _ _ _ _ _ => (fg_name 2 sc__law_figures.nd)) (fun _ _ _ _ _ => fts_nil) (fun _ _ _ _ _ => (fe_cal (c__law_figure (w := w) (K := K) T) (hr.mono (by decide)) (by rfl) takes0 (fa_cons (fe_var 2) fa_nil))))
      (fss_one (fs_ret (fe_if (ft_cmp (op_inD (u65s hr)) rd_In (eO fe_none) (vO 1) rfl) fe_none (fe_var 1)))))
theorem c__law_read (T : Tp fa fn tf K mg base) : Cal P w K mg base "_law_read" 3 ["_law_line_here"] (spP (He.ga K) 1 F_l_read) := by
  refine cal_pure (x := "_law_read") (sd := s__law_read) (N := ["_law_line_here", "_law_words", "_law_numbers", "_law_sizes", "_law_at"]) (ps := ["_law_line_here"]) (k := 2) (g := g_l_read) T.toTop 31 13 rfl rfl sc__law_read (fun _ _ _ _ _ _ => ln1 fun _ => by kernel_rfl) (fun cdv A outer s H E hr => ?_)
  exact (fss_cons (fs_set 1 sc__law_read.nd (by decide) (fe_ofL (fl_split (vO 0) (oa_cons (eO fe_str) oa_nil))))
      (fss_cons (fs_set 2 sc__law_read.nd (by decide) (fe_cal (c__law_figures (w := w) (K := K) T) (hr.mono (by decide)) (by rfl) (takes_of rfl rfl rfl rfl) (fa_cons (fe_ofL (fl_slice (vO 1) (fp_some fe_int) fp_none)) fa_nil)))
      (fss_cons (fs_set 3 sc__law_read.nd (by decide) (fe_frz (fn_disp (nds_cons (fn_E fe_int) (nds_cons (fn_E fe_int) (nds_cons (fn_E fe_int) (nds_cons (fn_E fe_int) (nds_cons (fn_E fe_int) (nds_cons (fn_E fe_int) (nds_cons (fn_E fe_int) nds_nil))))))) rfl rfl (by decide) (by decide) (by decide))))
      (fss_cons (fs_if (ft_isN (vO 2)) (fss_one (fs_ret fe_none)) fss_nil)
      (fss_cons (fs_if (ft_pw (fw_and (ft_cmp (op_EQ (u64s hr)) rd_EQ (eO (fe_ix (vO 1) (eO fe_int))) (eO fe_str) (nomark _)) (fw_and (ft_cmp (op_NE (u64s hr)) rd_NE (vO 2) (eO (fe_ofL (fl_lst fa_nil))) (nomark _)) (fw_and1 (ft_cmp (op_EQ (u64s hr)) rd_EQ (eO (fe_mod (eO (fe_len (by rfl) (T.free 0) (oa_cons (vO 2) oa_nil))) (eO fe_int))) (eO fe_int) (nomark _)))))) (fss_one (fs_ret (fe_tup (fa_cons fe_str (fa_cons (fe_tuple (by rfl) (T.free 8) (oa_cons (eO (fe_ofL (fl_lc (own := [("_law_at", 4)]) rfl sc__law_read.nd (blkOk_by (own := [("_law_at", 4)]) (N := ["_law_line_here", "_law_words", "_law_numbers", "_law_sizes", "_law_at"]) (sc := (defScope s__law_read)) (by decide +kernel)) (by decide) (fi_rng1 (by rfl) (T.free 7) (fa_cons (fe_len (by rfl) (T.free 0) (oa_cons (vO 2) oa_nil)) fa_nil)) (fun _ _ _ _ _ => (fg_name 4 sc__law_read.nd)) (fun _ _ _ _ _ => (fts_one (ft_cmp (op_EQ (u64s hr)) rd_EQ (eO (fe_mod (vO 4) (eO fe_int))) (eO fe_int) (nomark _)))) (fun _ _ _ _ _ => (fe_tup (fa_cons (fe_ix (vO 2) (vO 4)) (fa_cons (fe_ix (vO 2) (eO (fe_add (vO 4) (eO fe_int)))) fa_nil))))))) oa_nil)) fa_nil))))) fss_nil)
      (fss_cons (fs_if (ft_pw (fw_or (ft_dninD (u2s hr) (fe_ix (vO 1) (eO fe_int)) (fe_var 3)) (fw_or1 (ft_cmp (op_NE (u64s hr)) rd_NE (eO (fe_dix (u2s hr) (vO 3) (eO (fe_ix (vO 1) (eO fe_int))))) (eO (fe_len (by rfl) (T.free 0) (oa_cons (vO 2) oa_nil))) (nomark _))))) (fss_one (fs_ret fe_none)) fss_nil)
      (fss_one (fs_ret (fe_catT (eO (fe_tup (fa_cons (fe_ix (vO 1) (eO fe_int)) fa_nil))) (eO (fe_tuple (by rfl) (T.free 8) (oa_cons (vO 2) oa_nil))))))))))))
theorem c__law_told (T : Tp fa fn tf K mg base) : Cal P w K mg base "_law_told" 4 ["_law_line_here"] (spP (He.ga K) 1 F_l_told) := by
  refine cal_pure (x := "_law_told") (sd := s__law_told) (N := ["_law_line_here", "_law_found", "e"]) (ps := ["_law_line_here"]) (k := 3) (g := g_l_told) T.toTop 32 14 rfl rfl sc__law_told (fun _ _ _ _ _ _ => ln1 fun _ => by kernel_rfl) (fun cdv A outer s H E hr => ?_)
  exact (fss_cons (fs_set 1 sc__law_told.nd (by decide) fe_none)
      (fss_cons (fs_tryAs (i := 2) (C := He.ga K "CustomsError") (m := mEx) (su := fun c a ρ => if c ∈ exL then (sSeq (sSet 1 (ret (.str "else")))
    (sIf (tAndM (fB (fIsE 2 a (is_BadText c))) (tAndM (fB (fIsE 2 a (is_ValueError c))) (tNotM (fB (fIsE 2 a (is_BadMinutes c)))))) (sSet 1 (ret .none)) sNil)) ρ else .bad) rfl rfl sc__law_told.nd rfl rfl ⟨rfl, by decide, .inl (T.glo 15)⟩ (takes_of rfl rfl rfl rfl) (by decide) (hM T) (fun W pp xe tk po => (fss_one (fs_set 1 sc__law_told.nd (by decide) (fe_cal (c_read_deed (w := w) (K := K) T) (hr.mono (by decide)) (by rfl) tk (fa_cons (fe_var 0) fa_nil)))))
      (fun c a oe pp hz hv => suite_of fun hc => (fss_cons (fs_set 1 sc__law_told.nd (by decide) fe_str)
      (fss_one (fs_if (ft_pw (fw_and (ft_val (fe_isE (hX T c hc) hz hv (by rfl) (T.free 10) (pv 2) (pe_glob (v := .ref (He.ga K "BadText")) (by rfl) (T.glo 5) rfl) (fun _ h => h) (h_BadText T c hc))) (fw_and (ft_val (fe_isE (hX T c hc) hz hv (by rfl) (T.free 10) (pv 2) (pe_bltn (v := .ty "ValueError") (by rfl) (T.free 16) (by decide +kernel) rfl) (fun _ h => h) (h_ValueError T c hc))) (fw_and1 (ft_not (ft_val (fe_isE (hX T c hc) hz hv (by rfl) (T.free 10) (pv 2) (pe_glob (v := .ref (He.ga K "BadMinutes")) (by rfl) (T.glo 17) rfl) (fun _ h => h) (h_BadMinutes T c hc)))))))) (fss_one (fs_set 1 sc__law_told.nd (by decide) fe_none)) fss_nil)))))
      (fss_one (fs_retV 1 rfl))))
theorem c_law (T : Tp fa fn tf K mg base) : FnOk P w K mg base CX0 10 (He.ga K "law") (fdOf K "law") ["_law_script"] (spLaw K 6 g_law) := by
  refine ok_law (st := (defBody s_law).head (by decide)) (rest := (defBody s_law).tail) (T.def_ (x := "law") (st := s_law) 15) sc_law (by decide) rfl (fun cdv A outer s H E hr => ?_) (fun cdv A outer s H E hr => ?_)
  · obtain ⟨f, fd, F, hm, hk, hb⟩ := c__law_begin (P := P) (w := w) (base := base) T
    exact ps_set (i := 1) sc_law.nd rfl (Or.inl rfl) (pe_callS F (hr.mono (by decide)) (by rfl) hm hk hb (fun σ => passAt takes0 σ) (pa_cons (pv 0) pa_nil))
  · exact (fss_cons (fs_for PassesOwn.never rfl (by decide) (fi_rng1 (by rfl) (T.free 7) (fa_cons fe_int fa_nil)) (fg_name 2 sc_law.nd) (fss_cons (fs_set 3 sc_law.nd (by decide) (fe_cal (c__law_line (w := w) (K := K) T) (hr.mono (by decide)) (by rfl) takes0 (fa_cons (fe_calI 1 (c__law_any_deed (w := w) (K := K) T) (hr.mono (by decide)) (by rfl) takes0 fa_nil) fa_nil)))
      (fss_cons (fs_for PassesOwn.never rfl (by decide) (fi_rng1 (by rfl) (T.free 7) (fa_cons (fe_calI 1 (c__law_pick (w := w) (K := K) T) (hr.mono (by decide)) (by rfl) takes0 (fa_cons fe_int fa_nil)) fa_nil)) (fg_name 4 sc_law.nd) (fss_one (fs_set 3 sc_law.nd (by decide) (fe_calI 1 (c__law_bent_line (w := w) (K := K) T) (hr.mono (by decide)) (by rfl) takes0 (fa_cons (fe_var 3) fa_nil)))))
      (fss_one (fs_if (ft_not (ft_val (fe_calF (F_l_same_len _) (c__law_same (w := w) (K := K) T) (hr.mono (by decide)) (by rfl) takes0 (fa_cons (fe_cal (c__law_told (w := w) (K := K) T) (hr.mono (by decide)) (by rfl) takes0 (fa_cons (fe_var 3) fa_nil)) (fa_cons (fe_cal (c__law_read (w := w) (K := K) T) (hr.mono (by decide)) (by rfl) takes0 (fa_cons (fe_var 3) fa_nil)) fa_nil))))) (fss_one (fs_ret fe_bool)) fss_nil)))))
      (fss_cons (fs_set 5 sc_law.nd (by decide) (fe_ofL (fl_lst (fa_cons fe_str (fa_cons fe_str (fa_cons fe_str (fa_cons fe_str (fa_cons fe_str (fa_cons fe_str (fa_cons fe_str (fa_cons fe_str (fa_cons fe_str (fa_cons fe_str (fa_cons fe_str fa_nil))))))))))))))
      (fss_one (fs_ret (fe_all rfl (by rfl) (T.free 3) (oa_cons (eO (fe_ofL (fl_lc (own := [("_law_line_here", 3)]) rfl sc_law.nd (blkOk_by (own := [("_law_line_here", 3)]) (N := ["_law_script", "_law_draw", "_law_k", "_law_line_here", "_law_turn", "_law_odd"]) (sc := (defScope s_law)) (by decide +kernel)) (by decide) (fi_list (fe_var 5)) (fun _ _ _ _ _ => (fg_name 3 sc_law.nd)) (fun _ _ _ _ _ => fts_nil) (fun _ _ _ _ _ => (fe_isN (eO (fe_cal (c__law_told (w := w) (K := K) T) (hr.mono (by decide)) (by rfl) takes0 (fa_cons (fe_var 3) fa_nil)))))))) oa_nil))))))
end
end K55
namespace Mm
open PySem L2 Fx
variable [Tabz]
def drw (cs : List Int) (i j a b : Int) : List PyData := [.list (cs.map PyData.int), .int i, .int j, .int a, .int b]
def Dw (io : List PyData) : Prop := ∃ cs i j a b, io = drw cs i j a b ∧ 0 ≤ i ∧ 0 ≤ j ∧ 0 ≤ a ∧ a < 1000000007 ∧ 0 ≤ b
theorem drw_ix0 (cs : List Int) (i j a b : Int) : atI (drw cs i j a b) 0 = some (.list (cs.map PyData.int)) := rfl
theorem drw_ix1 (cs : List Int) (i j a b : Int) : atI (drw cs i j a b) 1 = some (.int i) := rfl
theorem drw_ix2 (cs : List Int) (i j a b : Int) : atI (drw cs i j a b) 2 = some (.int j) := rfl
theorem drw_ix3 (cs : List Int) (i j a b : Int) : atI (drw cs i j a b) 3 = some (.int a) := rfl
theorem drw_ix4 (cs : List Int) (i j a b : Int) : atI (drw cs i j a b) 4 = some (.int b) := rfl
theorem drw_set1 (cs : List Int) (i j a b x : Int) : kSet (.int x) (.int 1) (drw cs i j a b) = some (drw cs x j a b) := rfl
theorem drw_set2 (cs : List Int) (i j a b x : Int) : kSet (.int x) (.int 2) (drw cs i j a b) = some (drw cs i x a b) := rfl
theorem drw_set3 (cs : List Int) (i j a b x : Int) : kSet (.int x) (.int 3) (drw cs i j a b) = some (drw cs i j x b) := rfl
theorem drw_set4 (cs : List Int) (i j a b x : Int) : kSet (.int x) (.int 4) (drw cs i j a b) = some (drw cs i j a x) := rfl
def g_pick2 : Rho → Fl := (sSeq (sIf (fB (fOp oGe (.e (fOp oIx (.v 0) (.e (ret (.int 2))))) (.v 1))) (sSeq (sSet 3 (fOp oMod (.e (fOp oIx (.v 0) (.e (ret (.int 2))))) (.v 1)))
    (sSeq (sSetIx 0 (fOp oDiv (.e (fOp oIx (.v 0) (.e (ret (.int 2))))) (.v 1)) (ret (.int 2)))
    (sRetV0 3))) sNil)
    (sSeq (sSetIx 0 (fOp oAdd (.e (fOp oIx (.v 0) (.e (ret (.int 4))))) (.e (ret (.int 1)))) (ret (.int 4)))
    (sSeq (sSetIx 0 (fOp oMod (.e (fOp oAdd (.e (fOp oAdd (.e (fOp oPow (.e (fOp oIx (.v 0) (.e (ret (.int 3))))) (.e (ret (.int 3))))) (.e (fOp oMul (.e (ret (.int 40503))) (.e (fOp oIx (.v 0) (.e (ret (.int 4))))))))) (.e (ret (.int 17))))) (.e (ret (.int 1000000007)))) (ret (.int 3)))
    (sRet (fOp oMod (.e (fOp oDiv (.e (fOp oIx (.v 0) (.e (ret (.int 3))))) (.e (ret (.int 5))))) (.v 1))))))
theorem pick2_ok (cs : List Int) (i j a b m : Int) (s2 : Sl) (hi : 0 ≤ i) (hj : 0 ≤ j) (ha : 0 ≤ a) (ha2 : a < 1000000007) (hb : 0 ≤ b) (hm : 0 < m) (hm2 : m.natAbs.log2 < 9000) :
    ∃ r io, toOutI (g_pick2 [.ow (drw cs i j a b), .fz (.int m), s2, .un]) = .ok (.fz (.int r), io) ∧ Dw io ∧ 0 ≤ r ∧ r < m := by
  have d1 : cMod j m = true := decide_eq_true hm
  have d2 : cDiv j m = true := decide_eq_true ⟨hm, hm2⟩
  by_cases h : m ≤ j
  · refine ⟨j % m, drw cs i (j / m) a b, ?_, ⟨cs, i, j / m, a, b, rfl, hi, Int.ediv_nonneg hj (by omega), ha, ha2, hb⟩, Int.emod_nonneg _ (by omega), Int.emod_lt_of_pos _ hm⟩
    simp [g_pick2, drw_ix0, drw_ix1, drw_ix2, drw_ix3, drw_ix4, drw_set1, drw_set2, drw_set3, drw_set4, h, d1, d2]
  · have p1 : cPow a 3 = true := decide_eq_true ⟨by decide, by decide, by omega⟩
    have p2 : ∀ x, cMul 40503 x = true := fun x => decide_eq_true (.inl (by decide))
    have p3 : ∀ x, cMod x 1000000007 = true := fun x => decide_eq_true (by decide)
    have p4 : ∀ x, cDiv x 5 = true := fun x => decide_eq_true ⟨by decide, by decide +kernel⟩
    have p5 : ∀ x, cMod x m = true := fun x => decide_eq_true hm
    refine ⟨((a ^ 3 + 40503 * (b + 1) + 17) % 1000000007) / 5 % m, drw cs i j ((a ^ 3 + 40503 * (b + 1) + 17) % 1000000007) (b + 1), ?_, ⟨cs, i, j, _, b + 1, rfl, hi, hj, Int.emod_nonneg _ (by decide), Int.emod_lt_of_pos _ (by decide), by omega⟩, Int.emod_nonneg _ (by omega), Int.emod_lt_of_pos _ hm⟩
    simp [g_pick2, drw_ix0, drw_ix1, drw_ix2, drw_ix3, drw_ix4, drw_set1, drw_set2, drw_set3, drw_set4, h, p1, p2, p3, p4, p5]
theorem pick_ok {io : List PyData} {m : Int} (hd : Dw io) (hm : 0 < m) (hm2 : m ≤ 10 ^ 40) : ∃ r io', F_l_pick io [.int m] = .ok (.fz (.int r), io') ∧ Dw io' ∧ 0 ≤ r ∧ r < m := by
  have hl : m.natAbs.log2 < 9000 := by
    have h1 : m.natAbs < 2 ^ 200 := by omega
    have := PySem.Flt.log2_lt_of (k := 200) (by decide) h1
    omega
  obtain ⟨cs, i, j, a, b, rfl, hi, hj, ha, ha2, hb⟩ := hd
  show ∃ r io', toOutI (g_l_pick [.ow (drw cs i j a b), .fz (.int m), .un, .un]) = .ok (.fz (.int r), io') ∧ Dw io' ∧ 0 ≤ r ∧ r < m
  have eg : g_l_pick = sSeq (sIf (tAndM (fB (fOp oLt (.e (fOp oIx (.v 0) (.e (ret (.int 2))))) (.v 1))) (fB (fOp oLt (.e (fOp oIx (.v 0) (.e (ret (.int 1))))) (.e (fCB oLen [(.e (fOp oIx (.v 0) (.e (ret (.int 0)))))]))))) (sSeq (sSet 2 (fOp oIx (.e (fOp oIx (.v 0) (.e (ret (.int 0))))) (.e (fOp oIx (.v 0) (.e (ret (.int 1)))))))
    (sSeq (sSetIx 0 (fOp oAdd (.e (fOp oIx (.v 0) (.e (ret (.int 1))))) (.e (ret (.int 1)))) (ret (.int 1)))
    (sSeq (sSetIx 0 (ret (.int 0)) (ret (.int 2)))
    (sIf (fB (fOp oGe (.v 2) (.e (fOp oPow (.e (ret (.int 10))) (.e (ret (.int 18))))))) (sSetIx 0 (fVar 2) (ret (.int 2))) (sSetIx 0 (fOp oMod (.e (fOp oAdd (.e (fOp oIx (.v 0) (.e (ret (.int 3))))) (.v 2))) (.e (ret (.int 1000000007)))) (ret (.int 3))))))) sNil) g_pick2 := rfl
  have p2 : cPow 10 18 = true := by decide
  have p3 : ∀ x, cMod x 1000000007 = true := fun x => decide_eq_true (by decide)
  by_cases h1 : j < m
  · by_cases h2 : i < (cs.length : Int)
    · obtain ⟨c, hc⟩ : ∃ c, cs[i.toNat]? = some c := ⟨cs[i.toNat]'(by omega), List.getElem?_eq_getElem (by omega)⟩
      have hc2 : atI (cs.map PyData.int) i = some (.int c) := atI_at hi (by rw [List.getElem?_map, hc]; rfl)
      by_cases h3 : (10 : Int) ^ 18 ≤ c
      · have h3' : (1000000000000000000 : Int) ≤ c := by omega
        have e : g_l_pick [.ow (drw cs i j a b), .fz (.int m), .un, .un] = g_pick2 [.ow (drw cs (i + 1) c a b), .fz (.int m), .fz (.int c), .un] := by
          rw [eg]
          simp [drw_ix0, drw_ix1, drw_ix2, drw_ix3, drw_ix4, drw_set1, drw_set2, drw_set3, drw_set4, h1, h2, hc2, h3', p2, p3]
        rw [e]
        exact pick2_ok cs (i + 1) c a b m _ (by omega) (by omega) ha ha2 hb hm hl
      · have h3' : ¬ (1000000000000000000 : Int) ≤ c := by omega
        have e : g_l_pick [.ow (drw cs i j a b), .fz (.int m), .un, .un] = g_pick2 [.ow (drw cs (i + 1) 0 ((a + c) % 1000000007) b), .fz (.int m), .fz (.int c), .un] := by
          rw [eg]
          simp [drw_ix0, drw_ix1, drw_ix2, drw_ix3, drw_ix4, drw_set1, drw_set2, drw_set3, drw_set4, h1, h2, hc2, h3', p2, p3]
        rw [e]
        exact pick2_ok cs (i + 1) 0 _ b m _ (by omega) (by omega) (Int.emod_nonneg _ (by decide)) (Int.emod_lt_of_pos _ (by decide)) hb hm hl
    · have e : g_l_pick [.ow (drw cs i j a b), .fz (.int m), .un, .un] = g_pick2 [.ow (drw cs i j a b), .fz (.int m), .un, .un] := by
        rw [eg]
        simp [drw_ix0, drw_ix1, drw_ix2, drw_ix3, drw_ix4, h1, h2]
      rw [e]
      exact pick2_ok cs i j a b m _ hi hj ha ha2 hb hm hl
  · have e : g_l_pick [.ow (drw cs i j a b), .fz (.int m), .un, .un] = g_pick2 [.ow (drw cs i j a b), .fz (.int m), .un, .un] := by
      rw [eg]
      simp [drw_ix0, drw_ix1, drw_ix2, drw_ix3, drw_ix4, h1]
    rw [e]
    exact pick2_ok cs i j a b m _ hi hj ha ha2 hb hm hl
theorem dw_cells (ns : List Int) : Dw (cells ns) := ⟨ns, 0, 0, 1, 0, rfl, by decide, by decide, by decide, by decide, by decide⟩
theorem pick_item {ds : List PyData} {P : PyData → Prop} (h : ∀ d ∈ ds, P d) {r : Int} (h0 : 0 ≤ r) (h1 : r < (ds.length : Int)) : ∃ d, atI ds r = some d ∧ P d :=
  ⟨ds[r.toNat]'(by omega), atI_at h0 (List.getElem?_eq_getElem (by omega)), h _ (List.getElem_mem _)⟩
theorem zipD_self (ds : List PyData) : zipD ds ds = ds.map fun d => PyData.tuple [d, d] := by
  unfold zipD
  rw [List.zip_eq_zipWith, List.zipWith_self, List.map_map]
  rfl
theorem all_map_true (ds : List PyData) : asBools (ds.map fun _ => PyData.bool true) = some (ds.map fun _ => true) := by
  induction ds with
  | nil => rfl
  | cons d ds ih => simp only [List.map_cons, asBools, ih, Option.map_some]
theorem same_refl : ∀ (n : Nat) (d : PyData), gd n d = true → F_l_same_at n [d, d] = .ok (.fz (.bool true))
  | 0, _, h => by cases h
  | n + 1, d, h => by
    show toOut (g_l_same (F_l_same_at n) _) = _
    have step : ∀ (ds : List PyData) (x : PyData), ds.all (gd n) = true → small ds.length = true → (x = .list ds ∨ x = .tuple ds) →
        fLc (fAB oZip (fCons (fVar 0) (fCons (fVar 1) fNil))) (gTp (gsCons (gSet 2) (gsCons (gSet 3) gsNil))) (ret true) (fCall (F_l_same_at n) (fCons (fVar 2) (fCons (fVar 3) fNil))) [2, 3] [.fz x, .fz x, .un, .un] = .ok (ds.map fun _ => .bool true, [.fz x, .fz x, .un, .un]) := by
      intro ds x hds hs hx
      have hl : ds.length ≤ 100000 := of_decide_eq_true hs
      rw [lc_map (fun _ => .bool true) (ds := zipD ds ds) (ρ := [.fz x, .fz x, .un, .un]) (by rcases hx with rfl | rfl <;> simp [oZip]) (by rw [zipD_self, List.length_map]; exact hl) ?_]
      · rw [zipD_self, List.map_map]
        simp
      · intro d hd
        rw [zipD_self] at hd
        obtain ⟨y, hy, rfl⟩ := List.mem_map.mp hd
        have ey := same_refl n y (List.all_eq_true.mp hds y hy)
        refine ⟨[.fz x, .fz x, .fz y, .fz y], by simp, [.fz x, .fz x, .fz y, .fz y], by simp [ey], by simp⟩
    cases d with
    | none => simp [g_l_same]
    | bool b => simp [g_l_same, isTy, isTyN, tyName, oEQ]
    | int i => simp [g_l_same, isTy, isTyN, tyName, oEQ]
    | str x => simp [g_l_same, isTy, isTyN, tyName, oEQ]
    | dict kvs => cases h
    | list ds =>
      obtain ⟨h1, h2⟩ := Bool.and_eq_true_iff.mp (show (small ds.length && ds.all (gd n)) = true from h)
      simp [g_l_same, isTy, isTyN, tyName, oEQ, oNE, step ds (.list ds) h2 h1 (.inl rfl), all_map_true]
    | tuple ds =>
      obtain ⟨h1, h2⟩ := Bool.and_eq_true_iff.mp (show (small ds.length && ds.all (gd n)) = true from h)
      simp [g_l_same, isTy, isTyN, tyName, oEQ, oNE, step ds (.tuple ds) h2 h1 (.inr rfl), all_map_true]
theorem F_same_refl {d : PyData} (h : gd 8 d = true) : F_l_same [d, d] = .ok (.fz (.bool true)) := same_refl 8 d h
end Mm
namespace Mm
open PySem L2 Fx
variable [Tabz]
abbrev Lot := Int × Int × Int
abbrev Ot := Int × Int
def encL (l : Lot) : PyData := .tuple [.int l.1, .int l.2.1, .int l.2.2]
structure GoodL (l : Lot) : Prop where
  d1 : 1 ≤ l.1
  d2 : l.1 ≤ 999
  c1 : 1 ≤ l.2.1
  c2 : l.2.1 ≤ 10000000000
  u1 : 1 ≤ l.2.2
  u2 : l.2.2 ≤ 1000000
theorem kAppend_of {d : PyData} {ds : List PyData} (h : ds.length ≤ 100000) : kAppend d ds = some (ds ++ [d]) := by
  unfold kAppend
  rw [if_pos (small_of h)]
theorem rng_len (a : Int) (n : Nat) : (rng a n).length = n := by simp [rng]
theorem oRng1_of {j : Int} (h0 : 0 ≤ j) (h : j < 100000) : oRng1 [.int j] = some (rng 0 j.toNat) := by
  have e : small j.natAbs = true := decide_eq_true (by omega)
  simp [oRng1, e]
theorem rng_get {a : Int} {n j : Nat} {x : PyData} (h : (rng a n)[j]? = some x) : j < n ∧ x = .int (a + j) := by
  unfold rng at h
  rw [List.getElem?_map] at h
  cases q : (List.range n)[j]? with
  | none => rw [q] at h; cases h
  | some m =>
    rw [q] at h
    cases h
    obtain ⟨h1, h2⟩ := List.getElem?_eq_some_iff.mp q
    rw [List.length_range] at h1
    rw [List.getElem_range] at h2
    exact ⟨h1, by rw [h2]⟩
end Mm
namespace Mm
open PySem L2 Fx
variable [Tabz]
def gi : Nat → PyData → Bool
  | 0, _ => false
  | _ + 1, .none => true
  | _ + 1, .bool _ => true
  | _ + 1, .int _ => true
  | n + 1, .list ds => ds.all (gi n)
  | n + 1, .tuple ds => ds.all (gi n)
  | _ + 1, _ => false
theorem gi_all {n : Nat} (ih : ∀ d, gi n d = true → d.canLay0 = true ∧ d.depth ≤ n) : ∀ ds : List PyData, ds.all (gi n) = true → PyData.canLayAll0 ds = true ∧ PyData.depthAll ds ≤ n
  | [], _ => ⟨by simp [PyData.canLayAll0], by simp [PyData.depthAll]⟩
  | d :: ds, h => by
    rw [List.all_cons, Bool.and_eq_true] at h
    obtain ⟨h1, h2⟩ := ih d h.1
    obtain ⟨h3, h4⟩ := gi_all ih ds h.2
    refine ⟨by simp [PyData.canLayAll0, h1, h3], ?_⟩
    simp only [PyData.depthAll]
    omega
theorem gi_ok : ∀ (n : Nat) (d : PyData), gi n d = true → d.canLay0 = true ∧ d.depth ≤ n
  | 0, _, h => by cases h
  | n + 1, d, h => by
    cases d with
    | none => exact ⟨by simp [PyData.canLay0], by simp [PyData.depth]⟩
    | bool b => exact ⟨by simp [PyData.canLay0], by simp [PyData.depth]⟩
    | int b => exact ⟨by simp [PyData.canLay0], by simp [PyData.depth]⟩
    | str b => cases h
    | dict b => cases h
    | list ds =>
      obtain ⟨h3, h4⟩ := gi_all (gi_ok n) ds h
      exact ⟨by simp [PyData.canLay0, h3], by simp only [PyData.depth]; omega⟩
    | tuple ds =>
      obtain ⟨h3, h4⟩ := gi_all (gi_ok n) ds h
      exact ⟨by simp [PyData.canLay0, h3], by simp only [PyData.depth]; omega⟩
theorem gi_shaped {n : Nat} {d : PyData} (hn : n ≤ 64) (h : gi n d = true) : SeqAt.shaped d = true := by
  obtain ⟨h1, h2⟩ := gi_ok n d h
  show (d.canLay0 && decide (d.depth ≤ 64)) = true
  rw [Bool.and_eq_true]
  exact ⟨h1, decide_eq_true (by omega)⟩
theorem gi_ints (n : Nat) (ls : List Int) : (ls.map PyData.int).all (gi (n + 1)) = true := by
  rw [List.all_map, List.all_eq_true]
  intro l _
  simp [gi]
theorem oNE_nil {n : Nat} {ds : List PyData} (hn : n ≤ 64) (h : gi n (.list ds) = true) : oNE (.list ds) (.list []) = some (.bool (!ds.isEmpty)) := by
  have hs := gi_shaped hn h
  have hs0 : SeqAt.shaped (.list []) = true := gi_shaped (n := 1) (by decide) rfl
  cases ds with
  | nil =>
    have he := SeqAt.eqv_refl (.list []) (gi_ok 1 (.list []) rfl).1
    simp [oNE, hs0, he]
  | cons d ds => simp [oNE, hs, hs0, PyData.eqv, PyData.eqvAll]
def outAgL (os : List Ot) (t a b : Int) : List Int := (os.filter fun o => decide (a ≤ o.1 ∧ o.1 ≤ b + t)).map fun o => o.2
def outAg (os : List Ot) (t a b : Int) : Int := (outAgL os t a b).sum
end Mm
namespace Mm
open PySem L2 Fx
variable [Tabz]
theorem at_map {α : Type} (f : α → PyData) {xs : List α} {k : Nat} {x : α} (h : xs[k]? = some x) : atI (xs.map f) (k : Int) = some (f x) :=
  atI_nat (by rw [List.getElem?_map, h]; rfl)
def okTk : List Lot → List Int → Bool
  | [], [] => true
  | l :: ls, t :: ts => decide (0 ≤ t ∧ t ≤ l.2.1) && okTk ls ts
  | _, _ => false
def valL : List Lot → List Int → List Int
  | l :: ls, t :: ts => l.2.2 * t :: valL ls ts
  | _, _ => []
def val (ls : List Lot) (ts : List Int) : Int := (valL ls ts).sum
end Mm
namespace Mm
open PySem L2 Fx
variable [Tabz]
inductive A2 {α β : Type} (R : α → β → Prop) : List α → List β → Prop
  | nil : A2 R [] []
  | cons {a b as bs} : R a b → A2 R as bs → A2 R (a :: as) (b :: bs)
theorem A2.len {α β : Type} {R : α → β → Prop} : ∀ {xs : List α} {ys : List β}, A2 R xs ys → ys.length = xs.length
  | _, _, .nil => rfl
  | _, _, .cons _ t => by simp [t.len]
theorem rest_wipe (ρ' ρ : Rho) (vs : List Nat) : rest ρ' ρ vs = rest (wipeR ρ' vs) ρ vs := by
  apply List.ext_getElem?
  intro j
  rw [rest_get, rest_get, wipeR_len, wipeR_get]
  by_cases h : j ∈ vs
  · rw [if_pos h, if_pos h]
  · rw [if_neg h, if_neg h, if_neg h]
theorem lcE_draw {α β : Type} {g : PyData → Rho → Option Rho} {fe : M PyData} {vs : List Nat} (enc : α → PyData) (enc' : β → PyData) (I : Rho → Prop) (R : α → β → Prop) : ∀ (xs : List α) (ρ0 : Rho), I (wipeR ρ0 vs) →
    (∀ x ∈ xs, ∀ ρw, I ρw → ∃ ρ1, g (enc x) ρw = some ρ1 ∧ ∃ y ρ3, fe ρ1 = .ok (enc' y, ρ3) ∧ R x y ∧ I (wipeR ρ3 vs)) →
    ∃ ys ρ', lcE g (Fx.ret true) fe vs (xs.map enc) ρ0 = .ok (ys.map enc', ρ') ∧ A2 R xs ys ∧ I (wipeR ρ' vs)
  | [], ρ0, h0, _ => ⟨[], ρ0, rfl, .nil, h0⟩
  | d :: ds, ρ0, h0, hs => by
    obtain ⟨ρ1, e1, y, ρ3, e3, r3, i3⟩ := hs d List.mem_cons_self _ h0
    obtain ⟨ys, ρ', e4, r4, i4⟩ := lcE_draw enc enc' I R ds ρ3 i3 fun x hx => hs x (List.mem_cons_of_mem _ hx)
    refine ⟨y :: ys, ρ', ?_, .cons r3 r4, i4⟩
    rw [List.map_cons]
    unfold lcE
    rw [e1]
    simp only [Fx.ret, e3, e4, List.map_cons]
theorem lc_draw {α β : Type} {g : PyData → Rho → Option Rho} {fe : M PyData} {fi : M (List PyData)} {vs : List Nat} {ρ0 ρ : Rho} (xs : List α) (enc : α → PyData) (enc' : β → PyData) (I : Rho → Prop) (R : α → β → Prop) (hfi : fi ρ0 = .ok (xs.map enc, ρ)) (hs : xs.length ≤ 100000) (h0 : I (wipeR ρ vs))
    (he : ∀ x ∈ xs, ∀ ρw, I ρw → ∃ ρ1, g (enc x) ρw = some ρ1 ∧ ∃ y ρ3, fe ρ1 = .ok (enc' y, ρ3) ∧ R x y ∧ I (wipeR ρ3 vs)) :
    ∃ ys ρw, fLc fi g (Fx.ret true) fe vs ρ0 = .ok (ys.map enc', rest ρw ρ vs) ∧ A2 R xs ys ∧ I ρw := by
  obtain ⟨ys, ρ', e, r, i⟩ := lcE_draw enc enc' I R xs ρ h0 he
  refine ⟨ys, wipeR ρ' vs, ?_, r, i⟩
  unfold fLc bnd
  rw [hfi, ← rest_wipe]
  simp only [List.length_map, small_of hs, if_true, e]
theorem cut_drop {α : Type} (xs : List α) (k : Nat) : cut xs (some (k : Int)) none = xs.drop k := by
  unfold cut
  rw [HT.sIx_none, HT.sIx_nat, List.take_of_length_le (by rw [List.length_drop]; omega)]
  by_cases h : k ≤ xs.length
  · rw [Nat.min_eq_left h]
  · rw [Nat.min_eq_right (by omega), List.drop_length, List.drop_of_length_le (by omega)]
end Mm
namespace Mm
open PySem L2 Fx
variable [Tabz]
end Mm
namespace Mm
def S (o : List Nat) (g : Nat → Int) : Int := (o.map g).sum
@[simp] theorem S_nil (g : Nat → Int) : S [] g = 0 := rfl
@[simp] theorem S_cons (i : Nat) (o : List Nat) (g : Nat → Int) : S (i :: o) g = g i + S o g := by simp [S]
theorem S_zero {o : List Nat} {g : Nat → Int} (k : ∀ i ∈ o, g i = 0) : S o g = 0 := by
  induction o with
  | nil => rfl
  | cons i o ih => rw [S_cons, k i List.mem_cons_self, ih fun j hj => k j (List.mem_cons_of_mem _ hj)]; rfl
theorem outAg_cons (o : Ot) (os : List Ot) (t f l : Int) : outAg (o :: os) t f l = (if f ≤ o.1 ∧ o.1 ≤ l + t then o.2 else 0) + outAg os t f l := by
  unfold outAg outAgL
  by_cases h : f ≤ o.1 ∧ o.1 ≤ l + t
  · rw [List.filter_cons_of_pos (by simp [h]), if_pos h]; simp
  · rw [List.filter_cons_of_neg (by simp only [decide_eq_true_eq]; exact h), if_neg h]; simp
theorem outAg_nonneg {os : List Ot} {t f l : Int} (hc : ∀ o ∈ os, 0 ≤ o.2) : 0 ≤ outAg os t f l := by
  induction os with
  | nil => exact Int.le_refl _
  | cons o os ih =>
    rw [outAg_cons]
    have h1 := ih fun x hx => hc x (List.mem_cons_of_mem _ hx)
    have h2 := hc o List.mem_cons_self
    split <;> omega
abbrev at0 (xs : List Int) (i : Nat) : Int := xs.getD i 0
theorem at0_set (xs : List Int) (i j : Nat) (v : Int) (hi : i < xs.length) : at0 (xs.set i v) j = if i = j then v else at0 xs j := by
  unfold at0
  rw [List.getD_eq_getElem?_getD, List.getD_eq_getElem?_getD, List.getElem?_set]
  by_cases h : i = j
  · subst h; simp [hi]
  · simp [h]
end Mm
namespace Mm
open PySem L2 Fx
variable [Tabz]
abbrev dI (xs : List Int) : List PyData := xs.map PyData.int
noncomputable def byK (n : Nat) (key : Nat → List Int) : List Nat := (List.range n).mergeSort fun a b => lexLe (key a) (key b)
abbrev dyL (ls : List Lot) (i : Nat) : Int := (ls.getD i (0, 0, 0)).1
noncomputable def dutyL (ls : List Lot) : List Nat := byK ls.length fun i => [-(ls.getD i (0, 0, 0)).2.2, dyL ls i, (i : Int)]
def prs : List Int → List (Int × Int)
  | [] => []
  | d :: r => ((d :: r).map fun l => (d, l)) ++ prs r
def encP (p : Int × Int) : PyData := .tuple [.int p.1, .int p.2]
end Mm
namespace Mm
open PySem L2 Fx
variable [Tabz]
noncomputable def strL (ls : List Lot) : List (Int × Int) := prs (sortU (ls.map (·.1)))
noncomputable def inS (ls : List Lot) (ts : List Int) (f l : Int) : Int := S (List.range ls.length) fun i => if f ≤ dyL ls i ∧ dyL ls i ≤ l then at0 ts i else 0
noncomputable def spr (ls : List Lot) (os : List Ot) (t : Int) (ts : List Int) (p : Int × Int) : Int := outAg os t p.1 p.2 - inS ls ts p.1 p.2
def fitB (ls : List Lot) (os : List Ot) (t : Int) (ts : List Int) : Prop := ∀ p ∈ strL ls, 0 ≤ spr ls os t ts p
noncomputable def roomF (ls : List Lot) (os : List Ot) (t : Int) (ts : List Int) (d : Int) : List (Int × Int) → Int → Int
  | [], m => m
  | p :: r, m => roomF ls os t ts d r (if p.1 ≤ d ∧ d ≤ p.2 then (if spr ls os t ts p < m then spr ls os t ts p else m) else m)
noncomputable def roomAt (ls : List Lot) (os : List Ot) (t : Int) (ts : List Int) (k : Nat) : Int := roomF ls os t ts (dyL ls k) (strL ls) ((ls.getD k (0, 0, 0)).2.1 - at0 ts k)
end Mm
namespace Mm
open PySem L2 Fx
variable [Tabz]
def tri (j : Nat) (p : Nat × Int) : Lot := ((p.1 : Int), (j : Int), p.2)
theorem at_int {xs : List Int} {i : Nat} (h : i < xs.length) : atI (dI xs) (i : Int) = some (.int (at0 xs i)) := at_map PyData.int (by simp [h])
end Mm
namespace Mm
open PySem L2 Fx
variable [Tabz]
theorem range_getD {α : Type} (xs : List α) (d : α) : (List.range xs.length).map (fun i => xs.getD i d) = xs := by
  apply List.ext_getElem?
  intro i
  rw [List.getElem?_map]
  by_cases h : i < xs.length
  · rw [List.getElem?_range h]; simp [h]
  · rw [List.getElem?_eq_none (by simpa using h), List.getElem?_eq_none (by omega)]; rfl
structure Okk (ls : List Lot) (os : List Ot) (t : Int) : Prop where
  nl : ls.length ≤ 62
  no : os.length ≤ 62
  co : ∀ o ∈ os, 0 ≤ o.2
  ht : 0 ≤ t
structure Tk (ls : List Lot) (ts : List Int) : Prop where
  len : ts.length = ls.length
  pos : ∀ i, i < ls.length → 0 ≤ at0 ts i
section
variable {ls : List Lot} {os : List Ot} {t : Int} {ts : List Int}
theorem le_roomF {d x : Int} : ∀ {ps : List (Int × Int)} {m : Int}, x ≤ roomF ls os t ts d ps m ↔ x ≤ m ∧ ∀ p ∈ ps, p.1 ≤ d ∧ d ≤ p.2 → x ≤ spr ls os t ts p
  | [], m => by simp [roomF]
  | p :: r, m => by
    unfold roomF
    rw [le_roomF (ps := r)]
    constructor
    · rintro ⟨h1, h2⟩
      refine ⟨?_, fun q hq hc => ?_⟩
      · split at h1
        · split at h1 <;> omega
        · exact h1
      · rcases List.mem_cons.mp hq with e | e
        · subst e
          rw [if_pos hc] at h1
          split at h1 <;> omega
        · exact h2 q e hc
    · rintro ⟨h1, h2⟩
      refine ⟨?_, fun q hq hc => h2 q (List.mem_cons_of_mem _ hq) hc⟩
      split
      · rename_i hc
        have := h2 p List.mem_cons_self hc
        split <;> omega
      · exact h1
theorem inS_set {k : Nat} {v f l : Int} (hl : ts.length = ls.length) (hk : k < ls.length) : inS ls (ts.set k v) f l = inS ls ts f l + if f ≤ dyL ls k ∧ dyL ls k ≤ l then v - at0 ts k else 0 := by
  unfold inS
  have key : ∀ (o : List Nat), o.Nodup → S o (fun i => if f ≤ dyL ls i ∧ dyL ls i ≤ l then at0 (ts.set k v) i else 0) = S o (fun i => if f ≤ dyL ls i ∧ dyL ls i ≤ l then at0 ts i else 0) + if k ∈ o ∧ f ≤ dyL ls k ∧ dyL ls k ≤ l then v - at0 ts k else 0 := by
    intro o
    induction o with
    | nil => simp
    | cons i o ih =>
      intro nd
      rw [List.nodup_cons] at nd
      have ih := ih nd.2
      simp only [S_cons, ih]
      rw [at0_set _ _ _ _ (by omega)]
      by_cases h : k = i
      · subst h
        simp only [nd.1, List.mem_cons, true_or, true_and, false_and, if_false, if_true]
        split <;> omega
      · have h2 : (k ∈ i :: o) = (k ∈ o) := by simp [h]
        rw [if_neg h]
        simp only [h2]
        omega
  have := key (List.range ls.length) List.nodup_range
  rw [this]
  simp [hk]
theorem fit_more {k : Nat} {m : Int} (T : Tk ls ts) (hk : k < ls.length) (hf : fitB ls os t ts) (hm : m ≤ (ls.getD k (0, 0, 0)).2.1 - at0 ts k) : fitB ls os t (ts.set k (at0 ts k + m)) ↔ m ≤ roomAt ls os t ts k := by
  unfold roomAt
  rw [le_roomF]
  constructor
  · intro h
    refine ⟨hm, fun p hp hc => ?_⟩
    have h1 := h p hp
    unfold spr at h1 ⊢
    rw [inS_set T.len hk, if_pos hc] at h1
    omega
  · rintro ⟨_, h⟩ p hp
    have h1 := hf p hp
    unfold spr at h1 ⊢
    rw [inS_set T.len hk]
    by_cases hc : p.1 ≤ dyL ls k ∧ dyL ls k ≤ p.2
    · have h2 := h p hp hc
      unfold spr at h2
      rw [if_pos hc]
      omega
    · rw [if_neg hc]
      omega
theorem room_nonneg {k : Nat} (hf : fitB ls os t ts) (hm : 0 ≤ (ls.getD k (0, 0, 0)).2.1 - at0 ts k) : 0 ≤ roomAt ls os t ts k := by
  unfold roomAt
  rw [le_roomF]
  exact ⟨hm, fun p hp _ => hf p hp⟩
theorem room_le {k : Nat} : roomAt ls os t ts k ≤ (ls.getD k (0, 0, 0)).2.1 - at0 ts k := by
  unfold roomAt
  exact (le_roomF.mp (Int.le_refl _)).1
theorem Tk.set {k : Nat} {v : Int} (T : Tk ls ts) (hv : 0 ≤ v) (hk : k < ls.length) : Tk ls (ts.set k v) := by
  refine ⟨by rw [List.length_set, T.len], fun i hi => ?_⟩
  rw [at0_set _ _ _ _ (by rw [T.len]; exact hk)]
  split
  · exact hv
  · exact T.pos i hi
noncomputable def bestG (ls : List Lot) (os : List Ot) (t : Int) : List Nat → List Int → List Int
  | [], ts => ts
  | k :: r, ts => bestG ls os t r (ts.set k (roomAt ls os t ts k))
noncomputable def zer (n : Nat) : List Int := (List.range n).map fun _ => 0
noncomputable def best (ls : List Lot) (os : List Ot) (t : Int) : List Int := bestG ls os t (dutyL ls) (zer ls.length)
theorem zer_len (n : Nat) : (zer n).length = n := by simp [zer]
theorem zer_at (n i : Nat) : at0 (zer n) i = 0 := by
  unfold at0 zer
  rw [List.getD_eq_getElem?_getD, List.getElem?_map]
  by_cases h : i < n
  · rw [List.getElem?_range h]; rfl
  · rw [List.getElem?_eq_none (by simpa using h)]; rfl
end
end Mm
namespace Mm
open PySem L2 Fx
variable [Tabz]
abbrev ctL (ls : List Lot) (i : Nat) : Int := (ls.getD i (0, 0, 0)).2.1
structure Bi (ls : List Lot) (os : List Ot) (t : Int) (ts : List Int) : Prop where
  tk : Tk ls ts
  le : ∀ i, i < ls.length → at0 ts i ≤ ctL ls i
  fit : fitB ls os t ts
section
variable {ls : List Lot} {os : List Ot} {t : Int} {ts : List Int}
theorem Bi.zero (O : Okk ls os t) (hg : ∀ l ∈ ls, GoodL l) : Bi ls os t (zer ls.length) := by
  refine ⟨⟨zer_len _, fun i _ => by rw [zer_at]; exact Int.le_refl _⟩, fun i hi => ?_, fun p _ => ?_⟩
  · rw [zer_at]
    have := (hg _ (List.mem_of_getElem? (i := i) (show ls[i]? = some (ls.getD i (0, 0, 0)) by simp [hi]))).c1
    show 0 ≤ (ls.getD i (0, 0, 0)).2.1
    omega
  · unfold spr inS
    rw [S_zero fun i _ => by rw [zer_at]; split <;> rfl]
    have := outAg_nonneg (t := t) (f := p.1) (l := p.2) O.co
    omega
theorem Bi.step {k : Nat} (B : Bi ls os t ts) (hk : k < ls.length) (h0 : at0 ts k = 0) : Bi ls os t (ts.set k (roomAt ls os t ts k)) := by
  have hc := B.le k hk
  have hr : 0 ≤ roomAt ls os t ts k := room_nonneg B.fit (by have : (ls.getD k (0, 0, 0)).2.1 = ctL ls k := rfl; omega)
  have hr2 : roomAt ls os t ts k ≤ ctL ls k := by
    have := room_le (ls := ls) (os := os) (t := t) (ts := ts) (k := k)
    rw [h0] at this
    have e : ctL ls k = (ls.getD k (0, 0, 0)).2.1 := rfl
    omega
  refine ⟨B.tk.set hr hk, fun i hi => ?_, ?_⟩
  · rw [at0_set _ _ _ _ (by rw [B.tk.len]; exact hk)]
    split
    · rename_i e; rw [← e]; exact hr2
    · exact B.le i hi
  · have := (fit_more (os := os) (t := t) (m := roomAt ls os t ts k) B.tk hk B.fit room_le).mpr (Int.le_refl _)
    rw [h0, Int.zero_add] at this
    exact this
theorem okTk_of : ∀ {ls : List Lot} {ts : List Int}, ts.length = ls.length → (∀ i, i < ls.length → 0 ≤ at0 ts i ∧ at0 ts i ≤ ctL ls i) → okTk ls ts = true
  | [], [], _, _ => rfl
  | l :: ls, t :: ts, hl, h => by
    have h0 := h 0 (by simp)
    unfold okTk
    rw [Bool.and_eq_true]
    refine ⟨decide_eq_true h0, okTk_of (by simpa using hl) fun i hi => ?_⟩
    exact h (i + 1) (by simpa using hi)
  | [], _ :: _, hl, _ => by cases hl
  | _ :: _, [], hl, _ => by cases hl
theorem Bi.ok (B : Bi ls os t ts) : okTk ls ts = true := okTk_of B.tk.len fun i hi => ⟨B.tk.pos i hi, B.le i hi⟩
end
end Mm
namespace Mm
open PySem L2 Fx
variable [Tabz]
end Mm
namespace Mm
open PySem L2 Fx
variable [Tabz]
end Mm
namespace Mm
open PySem L2 Fx
variable [Tabz]
end Mm
namespace Mm
open PySem L2 Fx
variable [Tabz]
end Mm
namespace Mm
open PySem L2 Fx
variable [Tabz]
def heldL (ps : List Ot) (w d : Int) : List Int := (ps.filter fun p => decide (d - w ≤ p.1 ∧ p.1 ≤ d)).map fun p => p.2
def held (ps : List Ot) (w d : Int) : Int := (heldL ps w d).sum
end Mm
namespace Mm
open PySem L2 Fx
variable [Tabz]
end Mm
namespace Mm
open PySem L2 Fx
variable [Tabz]
end Mm
namespace Mm
open PySem L2 Fx
variable [Tabz]
end Mm
namespace Mm
open PySem L2 Fx
variable [Tabz]
end Mm
namespace Mm
open PySem L2 Fx
variable [Tabz]
end Mm
namespace Mm
open PySem L2 Fx
open Classical in
noncomputable def iv (p : Prop) (x : Int) : Int := if p then x else 0
def sumM {α : Type} (xs : List α) (g : α → Int) : Int := (xs.map g).sum
section
variable {ls : List Lot} {os : List Ot} {t : Int} {ts : List Int}
noncomputable def sumA (ls : List Lot) (ts : List Int) (A : Nat → Prop) : Int := S (List.range ls.length) fun i => iv (A i) (at0 ts i)
noncomputable def cov (ls : List Lot) (os : List Ot) (t : Int) (A : Nat → Prop) : Int := sumM os fun o => iv (∃ i, i < ls.length ∧ A i ∧ dyL ls i ≤ o.1 ∧ o.1 ≤ dyL ls i + t) o.2
variable [Tabz]
end
end Mm
namespace Mm
open PySem L2 Fx
noncomputable def ctA (ls : List Lot) (A : Nat → Prop) : Int := S (List.range ls.length) fun i => iv (A i) (ctL ls i)
noncomputable def cutV (ls : List Lot) (os : List Ot) (t : Int) (U A : Nat → Prop) : Int := cov ls os t A + ctA ls fun i => ¬ A i ∧ U i
section
variable {ls : List Lot} {os : List Ot} {t : Int} {ts : List Int}
variable [Tabz]
noncomputable abbrev rk (ls : List Lot) (os : List Ot) (t d m : Int) (U : Nat → Prop) : Int := sumA ls (best ls (os ++ [(d, m)]) t) U
variable {d : Int}
end
end Mm
namespace Mm
open PySem L2 Fx
variable [Tabz]
section
variable {ls : List Lot} {os : List Ot} {t d u : Int} {ts : List Int}
abbrev wi (ls : List Lot) (U : Nat → Prop) : Nat → Prop := fun i => U i ∨ i = ls.length
end
end Mm
namespace Mm
open PySem L2 Fx
variable [Tabz]
abbrev Pr := Int × Int
end Mm
namespace Mm
open PySem L2 Fx
variable [Tabz]
end Mm
namespace Mm
open PySem L2 Fx
variable [Tabz]
end Mm
namespace Mm
open PySem L2 Fx
variable [Tabz]
def encPs (l : List Pr) : PyData := .tuple (l.map encP)
abbrev kR (p hd : List PyData) : Tr := .nd (.ins "Kinds") [.ow p, .ow hd]
abbrev kRD (p hd : List PyData) : PyData := instD "Kinds" [.list p, .list hd]
section
variable {p hd : List PyData}
def badP (n a : Int) (q : Pr) : Prop := q.1 ≤ a ∨ n < q.1 ∨ q.2 < 1 ∨ 100 < q.2
instance (n a : Int) (q : Pr) : Decidable (badP n a q) := by unfold badP; infer_instance
def lookP (m : List Pr) (r : Int) : Option Int := match m with
  | [] => none
  | q :: m => if q.1 = r then some q.2 else lookP m r
structure HdOk (hs : List (List Pr)) : Prop where
  few : hs.length ≤ 12
  len : ∀ l ∈ hs, l.length ≤ 12
  num : ∀ l ∈ hs, ∀ q ∈ l, 1 ≤ q.1 ∧ q.1 ≤ (hs.length : Int) ∧ 1 ≤ q.2 ∧ q.2 ≤ 10000
  nd : ∀ l ∈ hs, (l.map (·.1)).Nodup
  ne : ∀ l ∈ hs, l ≠ []
theorem HdOk.at {hs : List (List Pr)} (h : HdOk hs) (n : Int) : (hs.getD (n - 1).toNat []).length ≤ 12 ∧ (∀ q ∈ hs.getD (n - 1).toNat [], 1 ≤ q.1 ∧ q.1 ≤ (hs.length : Int) ∧ 1 ≤ q.2 ∧ q.2 ≤ 10000) ∧ ((hs.getD (n - 1).toNat []).map (·.1)).Nodup := by
  by_cases hl : (n - 1).toNat < hs.length
  · have e : hs.getD (n - 1).toNat [] = hs[(n - 1).toNat] := by rw [List.getD_eq_getElem?_getD, List.getElem?_eq_getElem hl]; rfl
    have m := List.getElem_mem hl
    rw [e]
    exact ⟨h.len _ m, h.num _ m, h.nd _ m⟩
  · have e : hs.getD (n - 1).toNat [] = [] := by rw [List.getD_eq_getElem?_getD, List.getElem?_eq_none (by omega)]; rfl
    rw [e]
    exact ⟨Nat.zero_le _, (fun q z => absurd z List.not_mem_nil), List.nodup_nil⟩
end
end Mm
namespace Mm
open PySem L2 Fx
variable [Tabz]
theorem eqI (a b : Int) : oEQ (.int a) (.int b) = some (.bool (decide (a = b))) := rfl
theorem eqS (a b : Str) : oEQ (.str a) (.str b) = some (.bool (decide (a = b))) := rfl
def Pn (s : Sl) : Prop := ∀ kf i, killS kf i s = s
theorem pn_un : Pn .un := fun _ _ => rfl
theorem pn_fz {d : PyData} : Pn (.fz d) := fun _ _ => rfl
theorem HdOk.snoc {hs : List (List Pr)} (H : HdOk hs) {l : List Pr} (h5 : l ≠ []) (h1 : hs.length < 12) (h2 : l.length ≤ 12) (h3 : ∀ q ∈ l, 1 ≤ q.1 ∧ q.1 ≤ (hs.length : Int) + 1 ∧ 1 ≤ q.2 ∧ q.2 ≤ 10000) (h4 : (l.map (·.1)).Nodup) : HdOk (hs ++ [l]) := by
  have hl : (hs ++ [l]).length = hs.length + 1 := by simp
  refine ⟨by omega, fun x hx => ?_, fun x hx q hq => ?_, fun x hx => ?_, fun x hx => (List.mem_append.mp hx).elim (H.ne x) fun h => by rw [List.mem_singleton] at h; subst h; exact h5⟩
  · rcases List.mem_append.mp hx with h | h
    · exact H.len x h
    · rw [List.mem_singleton] at h; subst h; exact h2
  · rcases List.mem_append.mp hx with h | h
    · have := H.num x h q hq; omega
    · rw [List.mem_singleton] at h; subst h; have := h3 q hq; omega
  · rcases List.mem_append.mp hx with h | h
    · exact H.nd x h
    · rw [List.mem_singleton] at h; subst h; exact h4
theorem HdOk.nil : HdOk [] := ⟨by decide, (fun x z => absurd z List.not_mem_nil), (fun x z => absurd z List.not_mem_nil), (fun x z => absurd z List.not_mem_nil), (fun x z => absurd z List.not_mem_nil)⟩
theorem HdOk.raw {hs : List (List Pr)} (H : HdOk hs) (h1 : hs.length < 12) : HdOk (hs ++ [[((hs.length : Int) + 1, 1)]]) := H.snoc (by simp) h1 (by simp) (fun q hq => by rw [List.mem_singleton] at hq; subst hq; dsimp; omega) (by simp)
end Mm
namespace Mm
open PySem L2 TL Fx
def figs : Str := "0123456789"
theorem figs_in : ∀ c : Nat, 48 ≤ c → c ≤ 57 → Fx.inS ⟨#[c]⟩ figs = true := by
  intro c h1 h2
  have : c = 48 ∨ c = 49 ∨ c = 50 ∨ c = 51 ∨ c = 52 ∨ c = 53 ∨ c = 54 ∨ c = 55 ∨ c = 56 ∨ c = 57 := by omega
  rcases this with rfl | rfl | rfl | rfl | rfl | rfl | rfl | rfl | rfl | rfl <;> decide +kernel
structure Numw (w : Str) : Prop where
  dig : NumText.AllDigits (tl w)
  ne : tl w ≠ []
  few : (tl w).length ≤ 7
  lead : (tl w)[0]? = some 48 → (tl w).length ≤ 1
def valW (w : Str) : Int := (NumText.digitsVal (tl w) : Nat)
def nS (n : Int) : Str := toString n
theorem tl_nS (n : Nat) : tl (nS (n : Int)) = numL n := tl_num n
theorem numL_head : ∀ n : Nat, 1 ≤ n → (numL n)[0]? ≠ some 48 := by
  intro n
  induction n using Nat.strongRecOn with
  | _ n ih =>
    intro h1
    by_cases h : n < 10
    · rw [numL_lt h]
      simp
      omega
    · rw [numL_step (by omega), List.getElem?_append_left (List.length_pos_iff.mpr (numL_ne _))]
      exact ih (n / 10) (by omega) (by omega)
theorem num_numw {n : Int} (h0 : 0 ≤ n) (h1 : n < 10000000) : Numw (nS n) := by
  obtain ⟨m, rfl⟩ := Int.eq_ofNat_of_zero_le h0
  have e := tl_nS m
  have hl : (numL m).length ≤ 7 := numL_len (by decide) (by omega)
  refine ⟨by rw [e]; exact numL_digits m, by rw [e]; exact numL_ne m, by rw [e]; exact hl, fun z => ?_⟩
  rw [e] at z ⊢
  by_cases hm : 1 ≤ m
  · exact absurd z (numL_head m hm)
  · have : m = 0 := by omega
    subst this
    rw [numL_lt (by decide)]
    decide
theorem num_free {n : Int} (h0 : 0 ≤ n) {s : Nat} (hs : s < 48 ∨ 57 < s) : s ∉ tl (nS n) := by
  obtain ⟨m, rfl⟩ := Int.eq_ofNat_of_zero_le h0
  rw [tl_nS]
  exact numL_free hs
theorem strI_n {n : Int} (h0 : 0 ≤ n) (h1 : n < 10000000) : oStrI [.int n] = some (.str (nS n)) := by
  show (if n.natAbs.log2 < 1920 then some (PyData.str (nS n)) else none) = _
  rw [if_pos (by
    have h2 : n.natAbs < 2 ^ 24 := by omega
    have := PySem.Flt.log2_lt_of (k := 24) (by decide) h2
    omega)]
theorem intS_w {w : Str} (h : Numw w) : oIntS [.str w] = some (.int (valW w)) := by
  show (if w.length ≤ 640 then (PySem.intText? w).map PyData.int else none) = _
  have hl : w.length = (tl w).length := len_tl w
  have f := h.few
  rw [if_pos (by omega), intText_digits h.dig h.ne (by omega)]
  rfl
def sp : Str := " "
theorem tl_sp : tl sp = [32] := by decide +kernel
theorem sp_kind : sp.cps.all (· < 256) = true := by decide +kernel
theorem joinL_len (S : List Nat) : ∀ ps : List (List Nat), (joinL S ps).length ≤ (ps.map List.length).sum + ps.length * S.length
  | [] => by show 0 ≤ _; omega
  | [p] => by
    show p.length ≤ _
    rw [List.map_singleton, List.sum_singleton]
    omega
  | p :: q :: r => by
    have i := joinL_len S (q :: r)
    show (p ++ (S ++ joinL S (q :: r))).length ≤ _
    rw [List.map_cons, List.sum_cons, List.length_append, List.length_append, List.length_cons (as := q :: r), Nat.add_mul, Nat.one_mul]
    omega
theorem sum_few {α : Type} (f : α → Nat) (m : Nat) : ∀ xs : List α, (∀ x ∈ xs, f x ≤ m) → (xs.map f).sum ≤ xs.length * m
  | [], _ => by simp
  | x :: xs, h => by
    have a := h x List.mem_cons_self
    have b := sum_few f m xs fun y hy => h y (List.mem_cons_of_mem _ hy)
    rw [List.map_cons, List.sum_cons, List.length_cons, Nat.add_mul, Nat.one_mul]
    omega
structure Line (ws : List Str) : Prop where
  ne : ws ≠ []
  few : ws.length ≤ 100
  short : ∀ w ∈ ws, w.length ≤ 100
  free : ∀ w ∈ ws, 32 ∉ tl w
def lineS (ws : List Str) : Str := Txt.join sp ws
theorem lineS_len {ws : List Str} (L : Line ws) : (lineS ws).length ≤ 20000 := by
  unfold lineS
  rw [join_eq, len_tl, tl_join, tl_sp]
  have a := joinL_len [32] (ws.map tl)
  have b := sum_few (fun w : Str => (tl w).length) 100 ws fun w hw => by rw [← len_tl]; exact L.short w hw
  have f := L.few
  rw [List.map_map, List.length_map] at a
  have e : (List.length ∘ tl) = fun w : Str => (tl w).length := rfl
  rw [e] at a
  simp only [List.length_singleton, Nat.mul_one] at a
  omega
theorem join_n [Tabz] {ws : List Str} (L : Line ws) : oJoin (.str sp) [.list (ws.map PyData.str)] = some (.str (lineS ws)) := by
  show (match asStrs (ws.map PyData.str) with
    | some ys => if (ys.map fun z : Str => z.length).sum + ys.length * sp.length ≤ 16777216 then some (PyData.str (Txt.join sp ys)) else none
    | none => none) = _
  rw [asStrs_map]
  show (if (ws.map fun z : Str => z.length).sum + ws.length * sp.length ≤ 16777216 then some (PyData.str (Txt.join sp ws)) else none) = _
  have b := sum_few (fun w : Str => w.length) 100 ws L.short
  have f := L.few
  rw [if_pos (by rw [show sp.length = 1 from by decide +kernel]; omega)]
  rfl
end Mm
namespace Mm
open PySem L2 TL Fx
theorem figs_tl : figs.cps.toList = [48, 49, 50, 51, 52, 53, 54, 55, 56, 57] := by decide +kernel
def digB (c : Nat) : Bool := decide (48 ≤ c ∧ c ≤ 57)
theorem inS_fig (c : Nat) : Fx.inS ⟨#[c]⟩ figs = digB c := by
  have h : Fx.inS ⟨#[c]⟩ figs = decide (c ∈ figs.cps.toList) := StrLaws.found_one figs c
  rw [h, figs_tl]
  unfold digB
  rw [Bool.eq_iff_iff, decide_eq_true_eq, decide_eq_true_eq]
  simp only [List.mem_cons, List.not_mem_nil, or_false]
  omega
def leadB (l : List Nat) : Bool := decide (l[0]? = some 48) && decide (1 < l.length)
def numB (w : Str) : Bool := (tl w).all digB && (!(tl w).isEmpty && (decide ((tl w).length ≤ 7) && !leadB (tl w)))
theorem numB_iff {w : Str} : numB w = true ↔ Numw w := by
  unfold numB leadB
  simp only [Bool.and_eq_true, Bool.not_eq_true', Bool.and_eq_false_iff, decide_eq_true_eq, decide_eq_false_iff_not, List.all_eq_true, List.isEmpty_eq_false_iff]
  constructor
  · rintro ⟨h1, h2, h3, h4⟩
    exact ⟨fun c hc => of_decide_eq_true (h1 c hc), h2, h3, fun z => by
      rcases h4 with h4 | h4
      · exact absurd z h4
      · omega⟩
  · intro h
    refine ⟨fun c hc => decide_eq_true (h.dig c hc), h.ne, h.few, ?_⟩
    by_cases z : (tl w)[0]? = some 48
    · exact .inr (by have := h.lead z; omega)
    · exact .inl z
theorem dv_snoc (l : List Nat) (c : Nat) : NumText.digitsVal (l ++ [c]) = NumText.digitsVal l * 10 + (c - 48) := by
  unfold NumText.digitsVal
  rw [List.foldl_append]
  rfl
theorem rev_ind {P : List Nat → Prop} (h0 : P []) (h1 : ∀ l c, P l → P (l ++ [c])) (l : List Nat) : P l := by
  have h : ∀ r : List Nat, P r.reverse := fun r => by
    induction r with
    | nil => exact h0
    | cons a r ih => rw [List.reverse_cons]; exact h1 _ _ ih
  have z := h l.reverse
  rwa [List.reverse_reverse] at z
theorem dv_pos : ∀ {l : List Nat}, NumText.AllDigits l → l ≠ [] → l[0]? ≠ some 48 → 1 ≤ NumText.digitsVal l := by
  intro l
  refine rev_ind (P := fun l => NumText.AllDigits l → l ≠ [] → l[0]? ≠ some 48 → 1 ≤ NumText.digitsVal l) (fun _ h => absurd rfl h) (fun l c ih => ?_) l
  · intro hd _ h0
    rw [dv_snoc]
    cases l with
    | nil =>
      have hc := hd c (by simp)
      have : c ≠ 48 := fun z => h0 (by simp [z])
      omega
    | cons a r =>
      have := ih (fun x hx => hd x (List.mem_append.mpr (.inl hx))) (by simp) (by simpa using h0)
      omega
theorem numL_back : ∀ {l : List Nat}, NumText.AllDigits l → l ≠ [] → (l[0]? = some 48 → l.length ≤ 1) → numL (NumText.digitsVal l) = l := by
  intro l
  refine rev_ind (P := fun l => NumText.AllDigits l → l ≠ [] → (l[0]? = some 48 → l.length ≤ 1) → numL (NumText.digitsVal l) = l) (fun _ h => absurd rfl h) (fun l c ih => ?_) l
  · intro hd _ h0
    have hc := hd c (by simp)
    rw [dv_snoc]
    cases l with
    | nil =>
      show numL (0 * 10 + (c - 48)) = [c]
      rw [numL_lt (by omega)]
      congr 1
      omega
    | cons a r =>
      have hd' : NumText.AllDigits (a :: r) := fun x hx => hd x (List.mem_append.mpr (.inl hx))
      have ha : (a :: r)[0]? ≠ some 48 := fun z => by
        have := h0 (by simpa using z)
        simp at this
      have p := dv_pos hd' (by simp) ha
      have i := ih hd' (by simp) fun z => absurd z ha
      rw [numL_step (by omega), show (NumText.digitsVal (a :: r) * 10 + (c - 48)) / 10 = NumText.digitsVal (a :: r) by omega, i]
      congr 1
      congr 1
      omega
theorem dv_lt (l : List Nat) : NumText.AllDigits l → NumText.digitsVal l < 10 ^ l.length := by
  refine rev_ind (P := fun l => NumText.AllDigits l → NumText.digitsVal l < 10 ^ l.length) (fun _ => by decide) (fun l c ih => ?_) l
  intro hd
  have hc := hd c (by simp)
  have i := ih fun x hx => hd x (List.mem_append.mpr (.inl hx))
  rw [dv_snoc, List.length_append, List.length_singleton, Nat.pow_succ]
  omega
theorem val_lt {w : Str} (hd : NumText.AllDigits (tl w)) (h7 : (tl w).length ≤ 7) : 0 ≤ valW w ∧ valW w < 10000000 := by
  have a := dv_lt (tl w) hd
  have b : 10 ^ (tl w).length ≤ 10 ^ 7 := Nat.pow_le_pow_right (by decide) h7
  unfold valW
  omega
theorem nS_back {w : Str} (h : Numw w) : nS (valW w) = w := by
  refine ext_tl ?_
  unfold valW
  rw [tl_nS]
  exact numL_back h.dig h.ne h.lead
theorem nS_lead {w : Str} (hd : NumText.AllDigits (tl w)) (hz : leadB (tl w) = true) : nS (valW w) ≠ w := fun e => by
  have e2 := congrArg tl e
  unfold valW at e2
  rw [tl_nS] at e2
  unfold leadB at hz
  rw [Bool.and_eq_true, decide_eq_true_eq, decide_eq_true_eq] at hz
  rw [← e2] at hz
  by_cases h1 : 1 ≤ NumText.digitsVal (tl w)
  · exact numL_head _ h1 hz.1
  · rw [show NumText.digitsVal (tl w) = 0 by omega, numL_lt (by decide)] at hz
    exact absurd hz.2 (by decide)
end Mm
namespace Mm
open PySem L2 Fx
variable [Tabz]
abbrev hR (t l s : Int) (p hd lo ou cl pa fu : List PyData) : Tr := .nd (.ins "House") [.fz (.int t), .fz (.int l), .fz (.int s), kR p hd, .ow lo, .ow ou, .ow cl, .ow pa, .ow fu]
abbrev stR (p hd lo ou cl : List PyData) : PyData := .tuple [kRD p hd, .list lo, .list ou, .list cl]
end Mm
namespace Mm
open PySem L2 Fx
variable [Tabz]
structure LotR where
  k : Int
  d : Int
  c : Int
  u : Int
  s : Bool
structure OutR where
  k : Int
  d : Int
  c : Int
  s : Bool
structure ClR where
  k : Int
  d : Int
  pd : Int
  w : Int
  s : Bool
  ts : List Lot
instance : Inhabited LotR := ⟨⟨0, 0, 0, 0, false⟩⟩
instance : Inhabited OutR := ⟨⟨0, 0, 0, false⟩⟩
instance : Inhabited ClR := ⟨⟨0, 0, 0, 0, false, []⟩⟩
def encLR (r : LotR) : PyData := .tuple [.int r.k, .int r.d, .int r.c, .int r.u, .bool r.s]
def encOR (r : OutR) : PyData := .tuple [.int r.k, .int r.d, .int r.c, .bool r.s]
def encTs (ts : List Lot) : PyData := .tuple (ts.map encL)
def encCR (r : ClR) : PyData := .tuple [.int r.k, .int r.d, .int r.pd, .int r.w, .bool r.s, encTs r.ts]
end Mm
namespace Mm
open PySem L2 Fx
variable [Tabz]
theorem zip_get {α : Type} [Inhabited α] {xs : List α} {x : α × Nat} (h : x ∈ xs.zipIdx) : x.2 < xs.length ∧ xs.getD x.2 default = x.1 := by
  have e := List.mem_zipIdx_iff_getElem?.mp h
  have hl := (List.getElem?_eq_some_iff.mp e).1
  exact ⟨hl, by rw [List.getD_eq_getElem?_getD, e]; rfl⟩
end Mm
namespace Mm
open PySem L2 Fx
variable [Tabz]
structure BkOk (hs : List (List Pr)) (ls : List LotR) (os : List OutR) (cs : List ClR) : Prop where
  hd : HdOk hs
  nl : ls.length ≤ 30
  no : os.length ≤ 30
  nc : cs.length ≤ 30
  ct : ∀ c ∈ cs, c.ts.length ≤ 10000
  ok : ∀ r ∈ os, 1 ≤ r.k ∧ r.k ≤ (hs.length : Int) ∧ 1 ≤ r.d ∧ r.d ≤ 999 ∧ 1 ≤ r.c ∧ r.c ≤ 1000000
  lk : ∀ r ∈ ls, 1 ≤ r.k ∧ r.k ≤ (hs.length : Int) ∧ 1 ≤ r.d ∧ r.d ≤ 999 ∧ 1 ≤ r.c ∧ r.c ≤ 1000000 ∧ 1 ≤ r.u ∧ r.u ≤ 1000000
  cp : ∀ c ∈ cs, ∀ x ∈ c.ts, 1 ≤ x.2.2 ∧ 1 ≤ x.1 ∧ x.1 ≤ (ls.length : Int) ∧ (ls.getD (x.1 - 1).toNat default).k = c.k
end Mm
namespace Mm
open PySem L2 Fx
variable [Tabz]
end Mm
namespace Mm
open PySem L2 Fx
variable [Tabz]
inductive Deed where
  | raw
  | made (qs : List Pr)
  | come (k d c u : Int)
  | go (k d c : Int)
  | sl (n : Int)
  | so (n : Int)
  | lay (k d : Int)
  | cb (n : Int)
end Mm
namespace Mm
open PySem L2 Fx
variable [Tabz]
structure Bk where
  ps : List (List Pr)
  hs : List (List Pr)
  ls : List LotR
  os : List OutR
  cs : List ClR
def Bk.st (b : Bk) : PyData := stR (b.ps.map encPs) (b.hs.map encPs) (b.ls.map encLR) (b.os.map encOR) (b.cs.map encCR)
def Bk.tr (t l s : Int) (b : Bk) (pa fu : List PyData) : Tr := hR t l s (b.ps.map encPs) (b.hs.map encPs) (b.ls.map encLR) (b.os.map encOR) (b.cs.map encCR) pa fu
structure Bk.Ok (b : Bk) : Prop where
  bk : BkOk b.hs b.ls b.os b.cs
  len : b.ps.length = b.hs.length
  few : ∀ q ∈ b.ps, q.length ≤ 70
def Deed.small : Deed → Prop
  | .made qs => qs.length ≤ 70
  | _ => True
end Mm
namespace Mm
open PySem L2 Fx
variable [Tabz]
end Mm
namespace Mm
open PySem L2 Fx
variable [Tabz]
def Bk.rw (b : Bk) : List PyData := b.ps.map fun q => .bool (decide (q = []))
end Mm
namespace Mm
open PySem L2 Fx
variable [Tabz]
end Mm
namespace Mm
open PySem L2 Fx
variable [Tabz]
end Mm
namespace Mm
open PySem L2 Fx
variable [Tabz]
end Mm
namespace Mm
open PySem L2 Fx
variable [Tabz]
theorem BkOk.more {hs hs' : List (List Pr)} {ls : List LotR} {os : List OutR} {cs : List ClR} (B : BkOk hs ls os cs) (H : HdOk hs') (h : hs.length ≤ hs'.length) : BkOk hs' ls os cs :=
  ⟨H, B.nl, B.no, B.nc, B.ct, fun r hr => by have := B.ok r hr; omega, fun r hr => by have := B.lk r hr; omega, B.cp⟩
theorem BkOk.out {hs : List (List Pr)} {ls : List LotR} {os : List OutR} {cs : List ClR} (B : BkOk hs ls os cs) {r : OutR} (hn : os.length < 30) (h : 1 ≤ r.k ∧ r.k ≤ (hs.length : Int) ∧ 1 ≤ r.d ∧ r.d ≤ 999 ∧ 1 ≤ r.c ∧ r.c ≤ 1000000) : BkOk hs ls (os ++ [r]) cs :=
  ⟨B.hd, B.nl, by simp; omega, B.nc, B.ct, fun x hx => (List.mem_append.mp hx).elim (B.ok x) fun z => by rw [List.mem_singleton] at z; rw [z]; exact h, B.lk, B.cp⟩
end Mm
namespace Mm
open PySem L2 Fx
variable [Tabz]
section
variable {t l s : Int} {de pa fu : List PyData}
def Fu (s : Sl) : Prop := s = .un ∨ ∃ d, s = .fz d
theorem Fu.pn {s : Sl} (h : Fu s) : Pn s := by
  rcases h with rfl | ⟨d, rfl⟩
  · exact pn_un
  · exact pn_fz
theorem Fu.kp {s : Sl} (h : Fu s) : keepFz (some s) = s := by
  rcases h with rfl | ⟨d, rfl⟩ <;> rfl
theorem Fu.fz {d : PyData} : Fu (.fz d) := .inr ⟨d, rfl⟩
end
end Mm
namespace K55
open PySem L2 TL Fx Mm
variable [Tabz]
theorem number_in_n {w : Str} (h : Numw w) : F_number_in [.str w] = .ok (.fz (.int (valW w))) := by
  have i := intS_w h
  have hl : w.length = (tl w).length := len_tl w
  have f7 := h.few
  have sl : small w.length = true := small_of (by omega)
  have ne : ¬ (w = ("" : Str)) := fun z => h.ne (by rw [z]; decide +kernel)
  have q : q_number_in_1 [.fz (.str w), .un] = .ok ((tl w).map fun _ => PyData.bool true, [.fz (.str w), .un]) := by
    unfold q_number_in_1
    rw [lc_all (tl w) (fun c => PyData.str ⟨#[c]⟩) (fun _ => PyData.bool true) (ρ := [.fz (.str w), .un]) (by simp) (by omega) fun c hc => ⟨[.fz (.str w), .fz (.str ⟨#[c]⟩)], rfl, [.fz (.str w), .fz (.str ⟨#[c]⟩)], by
      have g := figs_in c (h.dig c hc).1 (h.dig c hc).2
      unfold figs at g
      have o : oInS (.str ⟨#[c]⟩) (.str "0123456789") = some (.bool true) := by
        show some (PyData.bool _) = _
        rw [g]
      simp [o], rfl⟩]
    rfl
  have al : asBools ((tl w).map fun _ => PyData.bool true) = some ((tl w).map fun _ => true) := by
    have e : (tl w).map (fun _ => PyData.bool true) = ((tl w).map fun _ => true).map PyData.bool := by rw [List.map_map]; rfl
    rw [e, asBools_map]
  have aa : ((tl w).map fun _ => true).all id = true := by
    rw [List.all_map]
    exact List.all_eq_true.mpr fun _ _ => rfl
  have hp := List.length_pos_iff.mpr h.ne
  obtain ⟨c, hc⟩ : ∃ c, (tl w)[0]? = some c := ⟨(tl w)[0], List.getElem?_eq_getElem hp⟩
  have a0 : atI (tl w) 0 = some c := by
    have z : atI (tl w) ((0 : Nat) : Int) = some (tl w)[0] := by
      unfold atI ixN
      rw [if_pos (by omega), if_pos (by omega)]
      exact List.getElem?_eq_getElem hp
    rw [List.getElem?_eq_getElem hp] at hc
    rw [show ((0 : Nat) : Int) = 0 from rfl] at z
    rw [z]
    exact hc
  show toOut (g_number_in _) = _
  have g7 : ¬ ((w.length : Int) > 7) := by omega
  generalize (tl w).map (fun _ => PyData.bool true) = bl at *
  generalize (tl w).map (fun _ => true) = cl at *
  by_cases c0 : c = 48
  · subst c0
    have l1 := h.lead hc
    have g1 : ¬ ((w.length : Int) > 1) := by omega
    have c48 : (⟨#[48]⟩ : Str) = "0" := by decide +kernel
    simp [g_number_in, eqS, ne, sl, g7, q, al, aa, a0, g1, i, c48]
  · have cn : ¬ ((⟨#[c]⟩ : Str) = "0") := fun z => c0 (by
      have e := congrArg (fun s : Str => s.cps.toList) z
      have e2 : [c] = [48] := e.trans (by decide +kernel)
      injection e2)
    simp [g_number_in, eqS, ne, sl, g7, q, al, aa, a0, cn, i]
inductive Dt where
  | made (ps : List Pr)
  | plain (nm : Str) (ns : List Int)
def flatP (ps : List Pr) : List Int := ps.flatMap fun p => [p.1, p.2]
def Dt.nums : Dt → List Int
  | .made ps => flatP ps
  | .plain _ ns => ns
def Dt.name : Dt → Str
  | .made _ => "made"
  | .plain nm _ => nm
def encT : Dt → PyData
  | .made ps => .tuple [.str "made", .tuple (ps.map encP)]
  | .plain nm ns => .tuple (.str nm :: dI ns)
def Dt.words (d : Dt) : List Str := d.name :: d.nums.map nS
structure Dt.Ok (d : Dt) : Prop where
  rng : ∀ n ∈ d.nums, 0 ≤ n ∧ n < 10000000
  few : d.nums.length ≤ 20
  nmL : d.name.length ≤ 20
  nmF : 32 ∉ tl d.name
  md : ∀ nm ns, d = .plain nm ns → nm ≠ "made" ∧ dc_SIZES.lookup nm = some (ns.length : Int)
  ne : ∀ ps, d = .made ps → ps ≠ []
theorem Dt.Ok.line {d : Dt} (O : d.Ok) : Line d.words := by
  refine ⟨by unfold Dt.words; simp, ?_, fun w hw => ?_, fun w hw => ?_⟩
  · have := O.few
    unfold Dt.words
    rw [List.length_cons, List.length_map]
    omega
  · rcases List.mem_cons.mp hw with rfl | hw
    · have := O.nmL; omega
    · obtain ⟨n, hn, rfl⟩ := List.mem_map.mp hw
      have := (num_numw (O.rng n hn).1 (O.rng n hn).2).few
      rw [len_tl]
      omega
  · rcases List.mem_cons.mp hw with rfl | hw
    · exact O.nmF
    · obtain ⟨n, hn, rfl⟩ := List.mem_map.mp hw
      exact num_free (O.rng n hn).1 (by omega)
theorem pair_rng {ps : List Pr} (O : (Dt.made ps).Ok) : ∀ p ∈ ps, (0 ≤ p.1 ∧ p.1 < 10000000) ∧ 0 ≤ p.2 ∧ p.2 < 10000000 := fun p hp => ⟨O.rng _ (List.mem_flatMap.mpr ⟨p, hp, List.mem_cons_self⟩), O.rng _ (List.mem_flatMap.mpr ⟨p, hp, List.mem_cons_of_mem _ List.mem_cons_self⟩)⟩
theorem flat_cons (p : Pr) (ps : List Pr) : flatP (p :: ps) = p.1 :: p.2 :: flatP ps := rfl
theorem flat_len : ∀ ps : List Pr, (flatP ps).length = 2 * ps.length
  | [] => rfl
  | p :: ps => by rw [flat_cons, List.length_cons, List.length_cons, flat_len ps, List.length_cons]; omega
theorem encT_made (ps : List Pr) : encT (.made ps) = .tuple [.str "made", .tuple (ps.map encP)] := rfl
theorem encT_plain (nm : Str) (ns : List Int) : encT (.plain nm ns) = .tuple (.str nm :: dI ns) := rfl
theorem cut1 (x : PyData) (xs : List PyData) : cut (x :: xs) (some 1) none = xs := cut_drop (x :: xs) 1
theorem lline_pairs (A X2 : Sl) : ∀ (ps : List Pr) (acc : List Str) (s3 : Sl), (∀ p ∈ ps, (0 ≤ p.1 ∧ p.1 < 10000000) ∧ 0 ≤ p.2 ∧ p.2 < 10000000) → acc.length + 2 * ps.length ≤ 1000 → ∃ s3', forE (gSet 3) b_l_line_1 (ps.map encP) [A, .ow (acc.map PyData.str), X2, s3] = .nx [A, .ow ((acc ++ (flatP ps).map nS).map PyData.str), X2, s3']
  | [], acc, s3, _, _ => ⟨s3, by show _ = Fl.nx [A, .ow ((acc ++ []).map PyData.str), X2, s3]; rw [List.append_nil]; rfl⟩
  | p :: ps, acc, s3, h, hl => by
    rw [List.length_cons] at hl
    obtain ⟨h1, h2⟩ := h p List.mem_cons_self
    have e1 := strI_n h1.1 h1.2
    have e2 := strI_n h2.1 h2.2
    obtain ⟨s3', e⟩ := lline_pairs A X2 ps (acc ++ [nS p.1, nS p.2]) (.fz (encP p)) (fun q hq => h q (List.mem_cons_of_mem _ hq)) (by rw [List.length_append]; simp; omega)
    refine ⟨s3', ?_⟩
    have eg : gSet 3 (encP p) [A, .ow (acc.map PyData.str), X2, s3] = some [A, .ow (acc.map PyData.str), X2, .fz (encP p)] := rfl
    have eb : b_l_line_1 [A, .ow (acc.map PyData.str), X2, .fz (encP p)] = .nx [A, .ow ((acc ++ [nS p.1, nS p.2]).map PyData.str), X2, .fz (encP p)] := by
      have sl : small ((acc.map PyData.str).length + 2) = true := small_of (by rw [List.length_map]; omega)
      have i0 : atI [PyData.int p.1, .int p.2] 0 = some (.int p.1) := rfl
      have i1 : atI [PyData.int p.1, .int p.2] 1 = some (.int p.2) := rfl
      rw [List.map_append]
      generalize acc.map PyData.str = am at *
      simp [b_l_line_1, encP, i0, i1, e1, e2, mkL, sl, show small 2 = true from rfl]
    rw [List.map_cons]
    unfold forE
    simp only [eg, eb]
    rw [e, List.append_assoc]
    rfl
theorem lline_plain (A s3 : Sl) : ∀ (ns : List Int) (acc : List Str) (s2 : Sl), (∀ n ∈ ns, 0 ≤ n ∧ n < 10000000) → acc.length + ns.length ≤ 1000 → ∃ s2', forE (gSet 2) b_l_line_2 (dI ns) [A, .ow (acc.map PyData.str), s2, s3] = .nx [A, .ow ((acc ++ ns.map nS).map PyData.str), s2', s3]
  | [], acc, s2, _, _ => ⟨s2, by rw [List.map_nil, List.append_nil]; rfl⟩
  | n :: ns, acc, s2, h, hl => by
    rw [List.length_cons] at hl
    have h1 := h n List.mem_cons_self
    have e1 := strI_n h1.1 h1.2
    obtain ⟨s2', e⟩ := lline_plain A s3 ns (acc ++ [nS n]) (.fz (.int n)) (fun q hq => h q (List.mem_cons_of_mem _ hq)) (by rw [List.length_append]; simp; omega)
    refine ⟨s2', ?_⟩
    have eg : gSet 2 (.int n) [A, .ow (acc.map PyData.str), s2, s3] = some [A, .ow (acc.map PyData.str), .fz (.int n), s3] := rfl
    have eb : b_l_line_2 [A, .ow (acc.map PyData.str), .fz (.int n), s3] = .nx [A, .ow ((acc ++ [nS n]).map PyData.str), .fz (.int n), s3] := by
      have k : kAppend (.str (nS n)) (acc.map PyData.str) = some (acc.map PyData.str ++ [.str (nS n)]) := kAppend_of (by rw [List.length_map]; omega)
      rw [List.map_append]
      generalize acc.map PyData.str = am at *
      have ti : isTy (PyData.int n) "tuple" = false := rfl
      simp [b_l_line_2, oIs, ti, e1, k, mutO]
    show forE (gSet 2) b_l_line_2 (.int n :: dI ns) _ = _
    unfold forE
    simp only [eg, eb]
    rw [e, List.append_assoc]
    rfl
theorem l_line_n {d : Dt} (O : d.Ok) : F_l_line [encT d] = .ok (.fz (.str (lineS d.words))) := by
  have j := join_n O.line
  unfold sp at j
  show toOut (g_l_line _) = _
  cases d with
  | made ps =>
    have f' : (flatP ps).length ≤ 20 := O.few
    have fl := flat_len ps
    obtain ⟨s3', e⟩ := lline_pairs (.fz (encT (.made ps))) (.fz (.tuple (ps.map encP))) ps ["made"] .un (pair_rng O) (by simp; omega)
    have eb : b_l_line_2 [.fz (encT (.made ps)), .ow ([("made" : Str)].map PyData.str), .fz (.tuple (ps.map encP)), .un] = .nx [.fz (encT (.made ps)), .ow (([("made" : Str)] ++ (flatP ps).map nS).map PyData.str), .fz (.tuple (ps.map encP)), s3'] := by
      have hf : sFor (fItT (fVar 2)) (gSet 3) b_l_line_1 [.fz (encT (.made ps)), .ow ([("made" : Str)].map PyData.str), .fz (.tuple (ps.map encP)), .un] = _ := (sFor_eq (by
        clear e
        generalize ps.map encP = pm at *
        generalize encT (.made ps) = et at *
        simp)).trans e
      clear e
      generalize ([("made" : Str)] ++ (flatP ps).map nS).map PyData.str = wl at *
      generalize ps.map encP = pm at *
      generalize encT (.made ps) = et at *
      simp only [List.map_cons, List.map_nil] at hf
      have ti : isTy (PyData.tuple pm) "tuple" = true := rfl
      simp [b_l_line_2, oIs, ti, hf]
    have hf : sFor (fItT (fSlA (fVar 0) (fP (ret (.int 1))) fNoP)) (gSet 2) b_l_line_2 [.fz (encT (.made ps)), .ow [.str "made"], .un, .un] = .nx [.fz (encT (.made ps)), .ow (([("made" : Str)] ++ (flatP ps).map nS).map PyData.str), .fz (.tuple (ps.map encP)), s3'] := by
      refine (sFor_eq (ds := [.tuple (ps.map encP)]) (ρ1 := [.fz (encT (.made ps)), .ow [.str "made"], .un, .un]) ?_).trans ?_
      · have c := cut1 (.str "made") [.tuple (ps.map encP)]
        rw [encT_made]
        clear e eb
        generalize ps.map encP = pm at *
        simp [c]
      · have eg : gSet 2 (.tuple (ps.map encP)) [.fz (encT (.made ps)), .ow [.str "made"], .un, .un] = some [.fz (encT (.made ps)), .ow ([("made" : Str)].map PyData.str), .fz (.tuple (ps.map encP)), .un] := rfl
        unfold forE
        simp only [eg, eb]
        rfl
    have j' : oJoin (.str " ") [.list (([("made" : Str)] ++ (flatP ps).map nS).map PyData.str)] = some (.str (lineS (Dt.made ps).words)) := j
    have ix0 : atI [PyData.str "made", .tuple (ps.map encP)] 0 = some (.str "made") := rfl
    clear j e eb
    generalize lineS (Dt.made ps).words = ln at *
    generalize ([("made" : Str)] ++ (flatP ps).map nS).map PyData.str = wl at *
    rw [encT_made] at *
    generalize ps.map encP = pm at *
    simp [g_l_line, mkL, small, ix0, hf, j']
  | plain nm ns =>
    have f : ns.length ≤ 20 := O.few
    obtain ⟨s2', e⟩ := lline_plain (.fz (encT (.plain nm ns))) .un ns [nm] .un O.rng (by simp; omega)
    have hf : sFor (fItT (fSlA (fVar 0) (fP (ret (.int 1))) fNoP)) (gSet 2) b_l_line_2 [.fz (encT (.plain nm ns)), .ow ([nm].map PyData.str), .un, .un] = _ := (sFor_eq (by
      have c := cut1 (.str nm) (dI ns)
      rw [encT_plain]
      clear e
      generalize dI ns = dn at *
      simp [c])).trans e
    have j' : oJoin (.str " ") [.list (([nm] ++ ns.map nS).map PyData.str)] = some (.str (lineS (Dt.plain nm ns).words)) := j
    have ix0 : atI (PyData.str nm :: dI ns) 0 = some (.str nm) := by unfold atI ixN; simp
    clear j e
    generalize lineS (Dt.plain nm ns).words = ln at *
    generalize ([nm] ++ ns.map nS).map PyData.str = wl at *
    rw [encT_plain] at *
    generalize dI ns = dn at *
    simp only [List.map_cons, List.map_nil] at hf
    simp [g_l_line, mkL, small, ix0, hf, j']
theorem evens : ∀ k : Nat, (List.range (2 * k)).filter (fun i => decide (i % 2 = 0)) = (List.range k).map fun j => 2 * j
  | 0 => rfl
  | k + 1 => by
    rw [show 2 * (k + 1) = 2 * k + 1 + 1 by omega, List.range_succ, List.range_succ, List.filter_append, List.filter_append, evens k, List.range_succ, List.map_append]
    have e1 : decide ((2 * k) % 2 = 0) = true := decide_eq_true (by omega)
    have e2 : decide ((2 * k + 1) % 2 = 0) = false := decide_eq_false (by omega)
    simp [List.filter_cons, e2]
theorem flat_at : ∀ (ps : List Pr) (j : Nat), j < ps.length → at0 (flatP ps) (2 * j) = (ps.getD j (0, 0)).1 ∧ at0 (flatP ps) (2 * j + 1) = (ps.getD j (0, 0)).2
  | [], _, h => absurd h (Nat.not_lt_zero _)
  | p :: ps, 0, _ => ⟨rfl, rfl⟩
  | p :: ps, j + 1, h => by
    have i := flat_at ps j (by simpa using h)
    exact i
theorem pairs_in_n (ps : List Pr) (hl : ps.length ≤ 49000) : F_pairs_in [.list (dI (flatP ps))] = .ok (.fz (.tuple (ps.map encP))) := by
  have fl := flat_len ps
  have dl : (dI (flatP ps)).length = 2 * ps.length := by unfold dI; rw [List.length_map, fl]
  have r1 : oRng1 [.int ((2 * ps.length : Nat) : Int)] = some ((List.range (2 * ps.length)).map fun i : Nat => PyData.int (i : Int)) := by
    have z := oRng1_of (j := ((2 * ps.length : Nat) : Int)) (by omega) (by omega)
    rw [Int.toNat_natCast] at z
    rw [z]
    unfold rng
    congr 1
    exact List.map_congr_left fun i _ => by rw [Int.zero_add]
  have cm : ∀ x : Int, cMod x 2 = true := fun x => decide_eq_true (by decide)
  have q : q_pairs_in_1 [.fz (.list (dI (flatP ps))), .un] = .ok (ps.map encP, [.fz (.list (dI (flatP ps))), .un]) := by
    unfold q_pairs_in_1
    rw [lc_if (List.range (2 * ps.length)) (fun i : Nat => PyData.int (i : Int)) (fun i => decide (i % 2 = 0)) (fun i => PyData.tuple [.int (at0 (flatP ps) i), .int (at0 (flatP ps) (i + 1))]) (ρ := [.fz (.list (dI (flatP ps))), .un]) (by
      generalize dI (flatP ps) = dd at *
      rw [← dl] at r1 ⊢
      simp [r1]) (by rw [List.length_range]; omega) fun i hi => ⟨[.fz (.list (dI (flatP ps))), .fz (.int (i : Int))], rfl, [.fz (.list (dI (flatP ps))), .fz (.int (i : Int))], by
        have e : decide ((i : Int) % 2 = 0) = decide (i % 2 = 0) := by rw [Bool.eq_iff_iff, decide_eq_true_eq, decide_eq_true_eq]; omega
        generalize dI (flatP ps) = dd at *
        rw [← e]
        simp [cm, eqI], fun hc => ⟨[.fz (.list (dI (flatP ps))), .fz (.int (i : Int))], by
          have hi := List.mem_range.mp hi
          have hc := of_decide_eq_true hc
          have a0 : atI (dI (flatP ps)) (i : Int) = some (.int (at0 (flatP ps) i)) := at_int (by omega)
          have a1 : atI (dI (flatP ps)) ((i : Int) + 1) = some (.int (at0 (flatP ps) (i + 1))) := at_int (i := i + 1) (by omega)
          generalize at0 (flatP ps) i = x at *
          generalize at0 (flatP ps) (i + 1) = y at *
          generalize dI (flatP ps) = dd at *
          simp [a0, a1, mkT, small], rfl⟩, fun _ => rfl⟩]
    rw [evens, List.map_map]
    congr 1
    congr 1
    conv => rhs; rw [← range_getD ps (0, 0), List.map_map]
    refine List.map_congr_left fun j hj => ?_
    have := flat_at ps j (List.mem_range.mp hj)
    show PyData.tuple [.int (at0 (flatP ps) (2 * j)), .int (at0 (flatP ps) (2 * j + 1))] = _
    rw [this.1, this.2]
    rfl
  show toOut (g_pairs_in _) = _
  have sl : (ps.map encP).length ≤ 100000 := by rw [List.length_map]; omega
  generalize dI (flatP ps) = dd at *
  generalize ps.map encP = pm at *
  simp [g_pairs_in, q, sl]
theorem a2_all {α β : Type} {R : β → Prop} : ∀ {xs : List α} {ys : List β}, A2 (fun _ y => R y) xs ys → ∀ y ∈ ys, R y
  | _, _, .nil, _, h => absurd h List.not_mem_nil
  | _, _, .cons r t, y, h => by
    rcases List.mem_cons.mp h with rfl | h
    · exact r
    · exact a2_all t y h
theorem any_number_ok {io : List PyData} (hd : Dw io) : ∃ (n : Int) (io' : List PyData), F_l_any_number io [] = .ok (.fz (.int n), io') ∧ Dw io' ∧ 0 ≤ n ∧ n < 10000000 := by
  obtain ⟨r1, io1, e1, d1, a1, b1⟩ := pick_ok (m := 4) hd (by decide) (by decide)
  have p7 : cPow 10 7 = true := by decide
  obtain ⟨x, ex, v, rfl, hv0, hv1⟩ := pick_item (ds := [.int 10, .int 100, .int 1000, .int 10000000]) (P := fun d => ∃ v, d = .int v ∧ 1 ≤ v ∧ v ≤ 10000000) (by
    intro d hm
    simp only [List.mem_cons, List.not_mem_nil, or_false] at hm
    rcases hm with rfl | rfl | rfl | rfl <;> exact ⟨_, rfl, by decide, by decide⟩) a1 (by simpa using b1)
  obtain ⟨n, io2, e2, d2, a2, b2⟩ := pick_ok (m := v) d1 (by omega) (by omega)
  refine ⟨n, io2, ?_, d2, a2, by omega⟩
  show toOutI (g_l_any_number [.ow io]) = _
  simp [g_l_any_number, e1, p7, mkT, small, ex, e2]
def nmS : List (Str × Nat) := [("raw", 0), ("come", 4), ("go", 3), ("strike_lot", 1), ("strike_out", 1), ("lay", 2), ("call_back", 1)]
theorem nm_ok : ∀ z ∈ nmS, z.1 ≠ "made" ∧ dc_SIZES.lookup z.1 = some (z.2 : Int) ∧ z.1.length ≤ 20 ∧ 32 ∉ tl z.1 ∧ z.2 ≤ 4 := by
  intro z hz
  simp only [nmS, List.mem_cons, List.not_mem_nil, or_false] at hz
  rcases hz with rfl | rfl | rfl | rfl | rfl | rfl | rfl <;> exact ⟨by decide +kernel, by decide +kernel, by decide +kernel, by decide +kernel, by decide⟩
theorem plain_ok {z : Str × Nat} (hz : z ∈ nmS) {ns : List Int} (hl : ns.length = z.2) (h : ∀ n ∈ ns, 0 ≤ n ∧ n < 10000000) : (Dt.plain z.1 ns).Ok := by
  obtain ⟨m1, m2, m3, m4, m5⟩ := nm_ok z hz
  refine ⟨h, by show ns.length ≤ 20; omega, m3, m4, fun nm ns' e => ?_, fun ps e => by cases e⟩
  cases e
  rw [hl]
  exact ⟨m1, m2⟩
theorem made_ok {ps : List Pr} (ne : ps ≠ []) (hl : ps.length ≤ 8) (h : ∀ p ∈ ps, (0 ≤ p.1 ∧ p.1 < 10000000) ∧ 0 ≤ p.2 ∧ p.2 < 10000000) : (Dt.made ps).Ok := by
  refine ⟨fun n hn => ?_, by show (flatP ps).length ≤ 20; rw [flat_len]; omega, by show (("made" : Str)).length ≤ 20; decide +kernel, by show 32 ∉ tl ("made" : Str); decide +kernel, fun nm ns e => (by cases e), fun ps' e => (by cases e; exact ne)⟩
  obtain ⟨p, hp, hn⟩ := List.mem_flatMap.mp hn
  simp only [List.mem_cons, List.not_mem_nil, or_false] at hn
  rcases hn with rfl | rfl
  · exact (h p hp).1
  · exact (h p hp).2
theorem many_n (io : List PyData) (s1 : Sl) {z : Str × Nat} (hz : z ∈ nmS) (s3 s4 s5 s6 : Sl) : fDgD (fFrz (nDisp (nsCons "raw" (nE (ret (.int 0))) (nsCons "come" (nE (ret (.int 4))) (nsCons "go" (nE (ret (.int 3))) (nsCons "lay" (nE (ret (.int 2))) nsNil)))))) (fVar 2) (ret (.int 1)) [.ow io, s1, .fz (.str z.1), s3, s4, s5, s6] = .ok (.int (z.2 : Int), [.ow io, s1, .fz (.str z.1), s3, s4, s5, s6]) := by
  simp only [nmS, List.mem_cons, List.not_mem_nil, or_false] at hz
  rcases hz with rfl | rfl | rfl | rfl | rfl | rfl | rfl <;> rfl
theorem any_deed_ok {io : List PyData} (hd : Dw io) : ∃ (d : Dt) (io' : List PyData), F_l_any_deed io [] = .ok (.fz (encT d), io') ∧ Dw io' ∧ d.Ok := by
  obtain ⟨r1, io1, e1, d1, a1, b1⟩ := pick_ok (m := 8) hd (by decide) (by decide)
  obtain ⟨x, ex, hx⟩ := pick_item (ds := [.str "raw", .str "made", .str "come", .str "go", .str "strike_lot", .str "strike_out", .str "lay", .str "call_back"]) (P := fun d => d = .str "made" ∨ ∃ z ∈ nmS, d = .str z.1) (by
    intro d hm
    simp only [List.mem_cons, List.not_mem_nil, or_false] at hm
    rcases hm with rfl | rfl | rfl | rfl | rfl | rfl | rfl | rfl
    · exact .inr ⟨("raw", 0), by simp [nmS], rfl⟩
    · exact .inl rfl
    · exact .inr ⟨("come", 4), by simp [nmS], rfl⟩
    · exact .inr ⟨("go", 3), by simp [nmS], rfl⟩
    · exact .inr ⟨("strike_lot", 1), by simp [nmS], rfl⟩
    · exact .inr ⟨("strike_out", 1), by simp [nmS], rfl⟩
    · exact .inr ⟨("lay", 2), by simp [nmS], rfl⟩
    · exact .inr ⟨("call_back", 1), by simp [nmS], rfl⟩) a1 (by simpa using b1)
  have pre : ∀ (T : Rho → Fl), (sSeq (sSet 1 (fLst (fLs (fCons (ret (.str "raw")) (fCons (ret (.str "made")) (fCons (ret (.str "come")) (fCons (ret (.str "go")) (fCons (ret (.str "strike_lot")) (fCons (ret (.str "strike_out")) (fCons (ret (.str "lay")) (fCons (ret (.str "call_back")) fNil)))))))))))
    (sSeq (sSet 2 (fOp oIx (.v 1) (.e (fCallI 0 F_l_pick (fCons (ret (.int 8)) fNil))))) T)) [.ow io, .un, .un, .un, .un, .un, .un] = T [.ow io1, .fz (.list [.str "raw", .str "made", .str "come", .str "go", .str "strike_lot", .str "strike_out", .str "lay", .str "call_back"]), .fz x, .un, .un, .un, .un] := by
    intro T
    rw [seq_nx (ρ1 := [.ow io, .fz (.list [.str "raw", .str "made", .str "come", .str "go", .str "strike_lot", .str "strike_out", .str "lay", .str "call_back"]), .un, .un, .un, .un, .un]) (by simp [mkL, small])]
    rw [seq_nx (ρ1 := [.ow io1, .fz (.list [.str "raw", .str "made", .str "come", .str "go", .str "strike_lot", .str "strike_out", .str "lay", .str "call_back"]), .fz x, .un, .un, .un, .un]) (by
      generalize [PyData.str "raw", .str "made", .str "come", .str "go", .str "strike_lot", .str "strike_out", .str "lay", .str "call_back"] = L at *
      simp [e1, ex])]
  generalize hL : [PyData.str "raw", .str "made", .str "come", .str "go", .str "strike_lot", .str "strike_out", .str "lay", .str "call_back"] = L at *
  have go : F_l_any_deed io [] = toOutI (g_l_any_deed [.ow io, .un, .un, .un, .un, .un, .un]) := rfl
  rw [go]
  unfold g_l_any_deed
  rw [pre]
  clear pre go ex
  rcases hx with rfl | ⟨z, hz, rfl⟩
  · obtain ⟨y, io2, e2, d2, a2, b2⟩ := pick_ok (m := 4) d1 (by decide) (by decide)
    obtain ⟨ρ', ef, hi⟩ := forE_inv (g := gSet 4) (s := b_l_any_deed_1) (fun k ρ => ∃ (io : List PyData) (ps : List Pr) (s4 s5 : Sl), Dw io ∧ Fu s5 ∧ ps.length = k ∧ (∀ p ∈ ps, (0 ≤ p.1 ∧ p.1 < 10000000) ∧ 0 ≤ p.2 ∧ p.2 < 10000000) ∧ k ≤ 1000 + 0 * k ∧ ρ = [.ow io, .fz (.list L), .fz (.str "made"), .ow (ps.map encP), s4, s5, .un]) (rng 0 (1 + y).toNat) 0 [.ow io2, .fz (.list L), .fz (.str "made"), .ow [], .un, .un, .un] ⟨io2, [], _, _, d2, .inl rfl, rfl, fun p h => absurd h List.not_mem_nil, by omega, rfl⟩ (by
      rintro j w ρ hy ⟨io, ps, s4, s5, dw, h5, hl, hp, _, rfl⟩
      obtain ⟨hj, rfl⟩ := rng_get hy
      obtain ⟨m, io3, e3, d3, m0, m1⟩ := any_number_ok dw
      obtain ⟨n, io4, e4, d4, n0, n1⟩ := any_number_ok d3
      have k1 : kAppend (.tuple [.int m, .int n]) (ps.map encP) = some ((ps ++ [(m, n)]).map encP) := by rw [kAppend_of (by rw [List.length_map]; omega), List.map_append]; rfl
      refine ⟨_, [.ow io4, .fz (.list L), .fz (.str "made"), .ow ((ps ++ [(m, n)]).map encP), .fz (.int (0 + (j : Int))), .fz (.int m), .un], rfl, .inl ?_, io4, ps ++ [(m, n)], _, _, d4, Fu.fz, by simp [hl], fun p h => ?_, by omega, rfl⟩
      · generalize (ps ++ [(m, n)]).map encP = pm' at *
        generalize ps.map encP = pm at *
        simp [b_l_any_deed_1, e3, e4, k1, mkT, small, mutO, h5.pn _ _]
      · rcases List.mem_append.mp h with h | h
        · exact hp p h
        · rw [List.mem_singleton.mp h]; exact ⟨⟨m0, m1⟩, n0, n1⟩)
    obtain ⟨io5, ps, s4, s5, d5, h5, hl, hp, _, rfl⟩ := hi
    rw [rng_len] at hl
    have ok := made_ok (ps := ps) (fun z => by rw [z] at hl; simp at hl; omega) (by omega) hp
    refine ⟨.made ps, io5, ?_, d5, ok⟩
    have r1 := oRng1_of (j := 1 + y) (by omega) (by omega)
    have hf : sFor (fAB oRng1 (fCons (fOp oAdd (.e (ret (.int 1))) (.e (fCallI 0 F_l_pick (fCons (ret (.int 4)) fNil)))) fNil)) (gSet 4) b_l_any_deed_1 [.ow io1, .fz (.list L), .fz (.str "made"), .ow [], .un, .un, .un] = _ := (sFor_eq (by simp [e2, r1])).trans ef
    have sl : (ps.map encP).length ≤ 100000 := by rw [List.length_map]; omega
    rw [encT_made]
    generalize ps.map encP = pm at *
    simp [eqS, mkL, small, hf, sl, mkT]
  · have nm := (nm_ok z hz).1
    have z4 := (nm_ok z hz).2.2.2.2
    have mn := many_n io1 (.fz (.list L)) hz .un .un .un .un
    have r1 := oRng1_of (j := (z.2 : Int)) (by omega) (by omega)
    rw [Int.toNat_natCast] at r1
    obtain ⟨ns, ρw, eq, r2, io3, rfl, d3⟩ := lc_draw (fi := fAB oRng1 (fCons (fVar 6) fNil)) (g := gSet 4) (fe := fCallI 0 F_l_any_number fNil) (vs := [4]) (ρ0 := [.ow io1, .fz (.list L), .fz (.str z.1), .un, .un, .un, .fz (.int (z.2 : Int))]) (ρ := [.ow io1, .fz (.list L), .fz (.str z.1), .un, .un, .un, .fz (.int (z.2 : Int))]) (List.range z.2) (fun i : Nat => PyData.int (0 + (i : Int))) PyData.int (fun ρ => ∃ io, ρ = [.ow io, .fz (.list L), .fz (.str z.1), .un, .un, .un, .fz (.int (z.2 : Int))] ∧ Dw io) (fun _ n => 0 ≤ n ∧ n < 10000000) (by
      rw [show (List.range z.2).map (fun i : Nat => PyData.int (0 + (i : Int))) = rng 0 z.2 from rfl]
      simp [r1]) (by rw [List.length_range]; omega) ⟨io1, rfl, d1⟩ (by
      rintro i hm ρ ⟨io, rfl, hd⟩
      obtain ⟨n, io', e, d', n0, n1⟩ := any_number_ok hd
      exact ⟨[.ow io, .fz (.list L), .fz (.str z.1), .un, .fz (.int (0 + (i : Int))), .un, .fz (.int (z.2 : Int))], rfl, n, [.ow io', .fz (.list L), .fz (.str z.1), .un, .fz (.int (0 + (i : Int))), .un, .fz (.int (z.2 : Int))], by simp [e], ⟨n0, n1⟩, io', rfl, d'⟩)
    have nl : ns.length = z.2 := by have := r2.len; rw [List.length_range] at this; omega
    have q : q_l_any_deed_1 [.ow io1, .fz (.list L), .fz (.str z.1), .un, .un, .un, .fz (.int (z.2 : Int))] = .ok (dI ns, [.ow io3, .fz (.list L), .fz (.str z.1), .un, .un, .un, .fz (.int (z.2 : Int))]) := by
      unfold q_l_any_deed_1
      rw [eq]
      simp [Fx.rest]
    have rg : ∀ n ∈ ns, 0 ≤ n ∧ n < 10000000 := a2_all r2
    refine ⟨.plain z.1 ns, io3, ?_, d3, plain_ok hz nl rg⟩
    have ld : (dI ns).length = ns.length := List.length_map ..
    have sl : small (1 + (dI ns).length) = true := small_of (by omega)
    have sl2 : (dI ns).length ≤ 100000 := by omega
    have sl3 : small ((dI ns).length + 1) = true := small_of (by omega)
    rw [encT_plain]
    rw [seq_nx (ρ1 := [.ow io1, .fz (.list L), .fz (.str z.1), .un, .un, .un, .un]) (by simp [eqS, nm])]
    rw [seq_nx (ρ1 := [.ow io1, .fz (.list L), .fz (.str z.1), .un, .un, .un, .fz (.int (z.2 : Int))]) (by
      unfold sSet sBnd
      rw [mn]
      rfl)]
    generalize dI ns = dn at *
    simp [q, mkT, sl, sl2, sl3, show small 1 = true from rfl]
theorem number_in_g {w : Str} (hl : w.length ≤ 100000) : F_number_in [.str w] = if numB w = true then .ok (.fz (.int (valW w))) else .exc "BadText" := by
  by_cases hn : numB w = true
  · rw [if_pos hn]; exact number_in_n (numB_iff.mp hn)
  · rw [if_neg hn]
    have lw : w.length = (tl w).length := len_tl w
    have sl : small w.length = true := small_of hl
    have q : q_number_in_1 [.fz (.str w), .un] = .ok ((tl w).map fun c => PyData.bool (digB c), [.fz (.str w), .un]) := by
      unfold q_number_in_1
      rw [lc_all (tl w) (fun c => PyData.str ⟨#[c]⟩) (fun c => PyData.bool (digB c)) (ρ := [.fz (.str w), .un]) (by simp) (by omega) fun c hc => ⟨[.fz (.str w), .fz (.str ⟨#[c]⟩)], rfl, [.fz (.str w), .fz (.str ⟨#[c]⟩)], by
        have g := inS_fig c
        unfold figs at g
        have o : oInS (.str ⟨#[c]⟩) (.str "0123456789") = some (.bool (digB c)) := by
          show some (PyData.bool _) = _
          rw [g]
        simp [o], rfl⟩]
      rfl
    have al : asBools ((tl w).map fun c => PyData.bool (digB c)) = some ((tl w).map digB) := by
      have e : (tl w).map (fun c => PyData.bool (digB c)) = ((tl w).map digB).map PyData.bool := by rw [List.map_map]; rfl
      rw [e, asBools_map]
    have aa : ((tl w).map digB).all id = (tl w).all digB := by rw [List.all_map]; rfl
    show toOut (g_number_in _) = _
    by_cases hne : w = ("" : Str)
    · subst hne
      simp [g_number_in, eqS]
    · have ht : tl w ≠ [] := fun z => hne (ext_tl (by rw [z]; decide +kernel))
      by_cases h7 : (tl w).length ≤ 7
      · have g7 : ¬ ((w.length : Int) > 7) := by omega
        cases hd : (tl w).all digB with
        | false =>
          rw [hd] at aa
          generalize (tl w).map (fun c => PyData.bool (digB c)) = bl at *
          generalize (tl w).map digB = cl at *
          simp [g_number_in, eqS, hne, sl, g7, q, al, aa]
        | true =>
          rw [hd] at aa
          have ld : leadB (tl w) = true := by
            unfold numB at hn
            rw [hd, decide_eq_true h7, List.isEmpty_eq_false_iff.mpr ht] at hn
            simpa using hn
          unfold leadB at ld
          rw [Bool.and_eq_true, decide_eq_true_eq, decide_eq_true_eq] at ld
          have g1 : (w.length : Int) > 1 := by omega
          have hp := List.length_pos_iff.mpr ht
          have a0 : atI (tl w) 0 = some 48 := by
            have z : atI (tl w) ((0 : Nat) : Int) = some (tl w)[0] := by
              unfold atI ixN
              rw [if_pos (by omega), if_pos (by omega)]
              exact List.getElem?_eq_getElem hp
            have h0 := ld.1
            rw [List.getElem?_eq_getElem hp] at h0
            rw [show ((0 : Nat) : Int) = 0 from rfl] at z
            rw [z]
            exact h0
          have c48 : (⟨#[48]⟩ : Str) = "0" := by decide +kernel
          generalize (tl w).map (fun c => PyData.bool (digB c)) = bl at *
          generalize (tl w).map digB = cl at *
          simp [g_number_in, eqS, hne, sl, g7, q, al, aa, a0, c48, g1]
      · have g7 : (w.length : Int) > 7 := by omega
        simp [g_number_in, eqS, hne, sl, g7]
theorem figure_g {w : Str} (hl : w.length ≤ 100000) : F_l_figure [.str w] = .ok (.fz (if numB w = true then .int (valW w) else .none)) := by
  have lw : w.length = (tl w).length := len_tl w
  have sl : small w.length = true := small_of hl
  show toOut (g_l_figure _) = _
  by_cases h7 : 1 ≤ (tl w).length ∧ (tl w).length ≤ 7
  · have g0 : (0 : Int) < (w.length : Int) := by omega
    have g8 : (w.length : Int) < 8 := by omega
    have g0' : 0 < w.length := by omega
    have g8' : w.length < 8 := by omega
    have loop : ∀ (l : List Nat) (s1 : Sl), (l.all digB = true → ∃ s1', forE (gSet 1) b_l_figure_1 (l.map fun c => PyData.str ⟨#[c]⟩) [.fz (.str w), s1] = .nx [.fz (.str w), s1']) ∧ (l.all digB = false → ∃ s1', forE (gSet 1) b_l_figure_1 (l.map fun c => PyData.str ⟨#[c]⟩) [.fz (.str w), s1] = .ret (.fz .none) [.fz (.str w), s1']) := by
      intro l
      induction l with
      | nil => intro s1; exact ⟨fun _ => ⟨s1, rfl⟩, fun h => by cases h⟩
      | cons c l ih =>
        intro s1
        have eg : gSet 1 (.str ⟨#[c]⟩) [.fz (.str w), s1] = some [.fz (.str w), .fz (.str ⟨#[c]⟩)] := rfl
        have g := inS_fig c
        unfold figs at g
        have o : oNInS (.str ⟨#[c]⟩) (.str "0123456789") = some (.bool (!digB c)) := by
          show some (PyData.bool _) = _
          rw [g]
        rw [List.map_cons]
        cases hc : digB c with
        | true =>
          rw [hc] at o
          have eb : b_l_figure_1 [.fz (.str w), .fz (.str ⟨#[c]⟩)] = .nx [.fz (.str w), .fz (.str ⟨#[c]⟩)] := by simp [b_l_figure_1, o]
          obtain ⟨i1, i2⟩ := ih (.fz (.str ⟨#[c]⟩))
          rw [List.all_cons, hc, Bool.true_and]
          refine ⟨fun h => ?_, fun h => ?_⟩
          · obtain ⟨s', e⟩ := i1 h
            refine ⟨s', ?_⟩
            unfold forE
            simp only [eg, eb]
            exact e
          · obtain ⟨s', e⟩ := i2 h
            refine ⟨s', ?_⟩
            unfold forE
            simp only [eg, eb]
            exact e
        | false =>
          rw [hc] at o
          have eb : b_l_figure_1 [.fz (.str w), .fz (.str ⟨#[c]⟩)] = .ret (.fz .none) [.fz (.str w), .fz (.str ⟨#[c]⟩)] := by simp [b_l_figure_1, o]
          rw [List.all_cons, hc, Bool.false_and]
          refine ⟨fun h => (by cases h), fun _ => ⟨.fz (.str ⟨#[c]⟩), ?_⟩⟩
          unfold forE
          simp only [eg, eb]
    have fi : fItS (fVar 0) [.fz (.str w), .un] = .ok ((tl w).map fun c => PyData.str ⟨#[c]⟩, [.fz (.str w), .un]) := by simp
    cases hd : (tl w).all digB with
    | false =>
      obtain ⟨s', e⟩ := (loop (tl w) .un).2 hd
      have hf : sFor (fItS (fVar 0)) (gSet 1) b_l_figure_1 [.fz (.str w), .un] = _ := (sFor_eq fi).trans e
      have nb : ¬ numB w = true := by unfold numB; rw [hd]; simp
      rw [if_neg nb]
      simp [g_l_figure, sl, g0, g8, g0', g8', hf]
    | true =>
      obtain ⟨s', e⟩ := (loop (tl w) .un).1 hd
      have hf : sFor (fItS (fVar 0)) (gSet 1) b_l_figure_1 [.fz (.str w), .un] = _ := (sFor_eq fi).trans e
      have ht : tl w ≠ [] := fun z => by rw [z] at h7; exact absurd h7.1 (by decide)
      have ad : NumText.AllDigits (tl w) := fun c hc => of_decide_eq_true (List.all_eq_true.mp hd c hc)
      have i : oIntS [.str w] = some (.int (valW w)) := by
        show (if w.length ≤ 640 then (PySem.intText? w).map PyData.int else none) = _
        rw [if_pos (by omega), intText_digits ad ht (by omega)]
        rfl
      have vl := val_lt ad h7.2
      have st := strI_n vl.1 vl.2
      by_cases nb : numB w = true
      · have bk := nS_back (numB_iff.mp nb)
        rw [if_pos nb]
        rw [bk] at st
        simp [g_l_figure, sl, g0, g8, g0', g8', hf, i, st, eqS]
      · have ld : leadB (tl w) = true := by
          unfold numB at nb
          rw [hd, decide_eq_true h7.2, List.isEmpty_eq_false_iff.mpr ht] at nb
          simpa using nb
        have ne := nS_lead ad ld
        rw [if_neg nb]
        simp [g_l_figure, sl, g0, g8, g0', g8', hf, i, st, eqS, ne]
  · have g : ¬ ((0 : Int) < (w.length : Int) ∧ (w.length : Int) < 8) := by omega
    have nb : ¬ numB w = true := fun z => h7 (by
      have n := numB_iff.mp z
      exact ⟨List.length_pos_iff.mpr n.ne, n.few⟩)
    rw [if_neg nb]
    by_cases g0 : (0 : Int) < (w.length : Int)
    · have g8 : ¬ ((w.length : Int) < 8) := fun z => g ⟨g0, z⟩
      have g0' : 0 < w.length := by omega
      have g8' : ¬ w.length < 8 := by omega
      simp [g_l_figure, sl, g0, g8, g0', g8']
    · have g0' : ¬ 0 < w.length := by omega
      simp [g_l_figure, sl, g0, g0']
def tot (W : List Str) : Nat := (W.map fun w : Str => w.length).sum + W.length
theorem spl_sum : ∀ (L acc : List Nat), ((spl [32] 0 acc L).map List.length).sum + (spl [32] 0 acc L).length = acc.length + L.length + 1
  | [], acc => by rw [spl_nil]; simp
  | c :: r, acc => by
    cases h : pre [32] (c :: r) with
    | true =>
      rw [spl_hit h]
      have := spl_sum r []
      simp only [List.length_singleton, Nat.sub_self, List.map_cons, List.sum_cons, List.length_cons, List.length_nil] at this ⊢
      omega
    | false =>
      rw [spl_miss h]
      have := spl_sum r (acc ++ [c])
      simp only [List.length_append, List.length_cons, List.length_nil] at this ⊢
      omega
theorem tot_split (a : Str) : tot (Txt.split a sp) = a.length + 1 := by
  have e := split_spl a sp (by rw [tl_sp]; simp) (kind_ok sp_kind)
  rw [tl_sp] at e
  have z := spl_sum (tl a) []
  rw [← e, List.map_map, List.length_map] at z
  unfold tot
  rw [len_tl a]
  have f : (List.length ∘ tl) = fun w : Str => w.length := funext fun w => (len_tl w).symm
  rw [f] at z
  simp only [List.length_nil] at z
  omega
theorem tot_cons (w : Str) (W : List Str) : tot (w :: W) = w.length + 1 + tot W := by
  unfold tot
  simp only [List.map_cons, List.sum_cons, List.length_cons]
  omega
theorem tot_mem : ∀ {W : List Str} {w : Str}, w ∈ W → w.length + 1 ≤ tot W
  | x :: W, w, h => by
    rw [tot_cons]
    rcases List.mem_cons.mp h with rfl | h
    · omega
    · have := tot_mem h; omega
theorem tot_len (W : List Str) : W.length ≤ tot W := Nat.le_add_left _ _
theorem split_g {a : Str} (hl : a.length ≤ 99000) : ∃ w ws, Txt.split a sp = w :: ws ∧ oSplit (.str a) [.str " "] = some (.str w :: ws.map PyData.str) ∧ tot (w :: ws) = a.length + 1 := by
  have t := tot_split a
  cases e : Txt.split a sp with
  | nil => rw [e] at t; exact absurd t (by unfold tot; simp)
  | cons w ws =>
    rw [e] at t
    refine ⟨w, ws, rfl, ?_, t⟩
    show (if (sp.length == 0) = false ∧ small a.length = true then some ((Txt.split a sp).map PyData.str) else none) = _
    rw [if_pos ⟨by decide +kernel, small_of (by omega)⟩, e]
    rfl
theorem numbers_lc (A : Sl) : ∀ (ws : List Str) (s : Sl), (∀ w ∈ ws, w.length ≤ 100000) → ∃ s', lcEX (gSet 1) (Fx.ret true) (fCall F_number_in (fCons (fVar 1) fNil)) [1] (ws.map PyData.str) [A, s] = if ws.all numB = true then .ok (dI (ws.map valW), [A, s']) else .exc "BadText" [A, s']
  | [], s, _ => ⟨s, rfl⟩
  | w :: ws, s, h => by
    obtain ⟨s', e⟩ := numbers_lc A ws (.fz (.str w)) fun x hx => h x (List.mem_cons_of_mem _ hx)
    have g := number_in_g (h w List.mem_cons_self)
    rw [List.map_cons]
    unfold lcEX
    have e1 : gSet 1 (PyData.str w) (wipeR [A, s] [1]) = some [A, .fz (.str w)] := rfl
    rw [e1]
    dsimp only
    rw [List.all_cons]
    cases hn : numB w with
    | true =>
      rw [hn, if_pos rfl] at g
      have e2 : fCall F_number_in (fCons (fVar 1) fNil) [A, .fz (.str w)] = .ok (.int (valW w), [A, .fz (.str w)]) := by
        generalize F_number_in = F at *
        simp [g]
      have e3 : Fx.ret true ([A, .fz (.str w)] : Rho) = .ok (true, [A, .fz (.str w)]) := rfl
      rw [e3]
      dsimp only
      rw [e2]
      dsimp only
      rw [e]
      refine ⟨s', ?_⟩
      rw [Bool.true_and]
      by_cases ha : ws.all numB = true
      · rw [if_pos ha, if_pos ha]; rfl
      · rw [if_neg ha, if_neg ha]
    | false =>
      rw [hn, if_neg (by decide)] at g
      have e2 : fCall F_number_in (fCons (fVar 1) fNil) [A, .fz (.str w)] = .exc "BadText" [A, .fz (.str w)] := by
        generalize F_number_in = F at *
        simp [g]
      have e3 : Fx.ret true ([A, .fz (.str w)] : Rho) = .ok (true, [A, .fz (.str w)]) := rfl
      rw [e3]
      dsimp only
      rw [e2]
      refine ⟨.fz (.str w), ?_⟩
      rw [Bool.false_and, if_neg (by decide)]
theorem numbers_in_g {ws : List Str} (hl : ws.length ≤ 100000) (hw : ∀ w ∈ ws, w.length ≤ 100000) : F_numbers_in [.list (ws.map PyData.str)] = if ws.all numB = true then .ok (.ow (dI (ws.map valW))) else .exc "BadText" := by
  obtain ⟨s', e⟩ := numbers_lc (.fz (.list (ws.map PyData.str))) ws .un hw
  have q : q_numbers_in_1 [.fz (.list (ws.map PyData.str)), .un] = if ws.all numB = true then .ok (dI (ws.map valW), [.fz (.list (ws.map PyData.str)), .un]) else .exc "BadText" [.fz (.list (ws.map PyData.str)), .un] := by
    unfold q_numbers_in_1 fLcX bnd
    have f : fItL (fVar 0) [.fz (.list (ws.map PyData.str)), .un] = .ok (ws.map PyData.str, [.fz (.list (ws.map PyData.str)), .un]) := by simp
    rw [f]
    dsimp only
    rw [if_pos (small_of (by rw [List.length_map]; exact hl)), e]
    by_cases ha : ws.all numB = true
    · rw [if_pos ha, if_pos ha]; rfl
    · rw [if_neg ha, if_neg ha]; rfl
  show toOut (g_numbers_in _) = _
  by_cases ha : ws.all numB = true
  · rw [if_pos ha] at q ⊢
    generalize ws.map PyData.str = wl at *
    generalize dI (ws.map valW) = dn at *
    simp [g_numbers_in, q]
  · rw [if_neg ha] at q ⊢
    generalize ws.map PyData.str = wl at *
    simp [g_numbers_in, q]
def figD (w : Str) : PyData := if numB w = true then .int (valW w) else .none
theorem fig_none : ∀ ws : List Str, (ws.map figD).any (fun z => PyData.eqv z .none) = !ws.all numB
  | [] => rfl
  | w :: ws => by
    rw [List.map_cons, List.any_cons, List.all_cons, fig_none ws]
    unfold figD
    cases hn : numB w with
    | true => rw [if_pos rfl]; rfl
    | false => rw [if_neg (by decide)]; rfl
theorem fig_all : ∀ {ws : List Str}, ws.all numB = true → ws.map figD = dI (ws.map valW)
  | [], _ => rfl
  | w :: ws, h => by
    rw [List.all_cons, Bool.and_eq_true] at h
    rw [List.map_cons, fig_all h.2]
    unfold figD
    rw [if_pos h.1]
    rfl
theorem figures_g {ws : List Str} (hl : ws.length ≤ 100000) (hw : ∀ w ∈ ws, w.length ≤ 100000) : F_l_figures [.list (ws.map PyData.str)] = .ok (.fz (if ws.all numB = true then .list (dI (ws.map valW)) else .none)) := by
  have q : q_l_figures_1 [.fz (.list (ws.map PyData.str)), .un, .un] = .ok (ws.map figD, [.fz (.list (ws.map PyData.str)), .un, .un]) := by
    unfold q_l_figures_1
    rw [lc_all ws PyData.str figD (ρ := [.fz (.list (ws.map PyData.str)), .un, .un]) (by simp) hl fun w hm => ⟨[.fz (.list (ws.map PyData.str)), .un, .fz (.str w)], rfl, [.fz (.list (ws.map PyData.str)), .un, .fz (.str w)], by
      have g := figure_g (hw w hm)
      change F_l_figure [.str w] = .ok (.fz (figD w)) at g
      generalize F_l_figure = F at *
      generalize figD w = d at *
      simp [g], rfl⟩]
    rfl
  have gs : gi 3 (.list (ws.map figD)) = true := by
    show (ws.map figD).all (gi 2) = true
    rw [List.all_map]
    refine List.all_eq_true.mpr fun w _ => ?_
    show gi 2 (figD w) = true
    unfold figD
    by_cases hn : numB w = true
    · rw [if_pos hn]; rfl
    · rw [if_neg hn]; rfl
  have sh := gi_shaped (n := 3) (by decide) gs
  have sn : SeqAt.shaped (.none : PyData) = true := gi_shaped (n := 1) (by decide) rfl
  have oi : oIn .none (.list (ws.map figD)) = some (.bool (!ws.all numB)) := by
    show (if SeqAt.shaped .none && SeqAt.shaped (.list (ws.map figD)) then some (PyData.bool ((ws.map figD).any fun z => PyData.eqv z .none)) else none) = _
    rw [sn, sh, if_pos (show (true && true) = true from rfl), fig_none]
  show toOut (g_l_figures _) = _
  by_cases ha : ws.all numB = true
  · have fa := fig_all ha
    rw [ha] at oi
    rw [if_pos ha, ← fa]
    generalize ws.map figD = fl at *
    generalize ws.map PyData.str = wl at *
    simp [g_l_figures, q, oi]
  · rw [Bool.not_eq_true] at ha
    rw [ha] at oi
    rw [if_neg (by rw [ha]; decide)]
    generalize ws.map figD = fl at *
    generalize ws.map PyData.str = wl at *
    simp [g_l_figures, q, oi]
theorem read_pairs (A W S : Sl) (ps : List Pr) (hl : ps.length ≤ 49000) : q_l_read_1 [A, W, .fz (.list (dI (flatP ps))), S, .un] = .ok (ps.map encP, [A, W, .fz (.list (dI (flatP ps))), S, .un]) := by
  have fl := flat_len ps
  have dl : (dI (flatP ps)).length = 2 * ps.length := by unfold dI; rw [List.length_map, fl]
  have r1 : oRng1 [.int ((2 * ps.length : Nat) : Int)] = some ((List.range (2 * ps.length)).map fun i : Nat => PyData.int (i : Int)) := by
    have z := oRng1_of (j := ((2 * ps.length : Nat) : Int)) (by omega) (by omega)
    rw [Int.toNat_natCast] at z
    rw [z]
    unfold rng
    congr 1
    exact List.map_congr_left fun i _ => by rw [Int.zero_add]
  have cm : ∀ x : Int, cMod x 2 = true := fun x => decide_eq_true (by decide)
  unfold q_l_read_1
  rw [lc_if (List.range (2 * ps.length)) (fun i : Nat => PyData.int (i : Int)) (fun i => decide (i % 2 = 0)) (fun i => PyData.tuple [.int (at0 (flatP ps) i), .int (at0 (flatP ps) (i + 1))]) (ρ := [A, W, .fz (.list (dI (flatP ps))), S, .un]) (by
    generalize dI (flatP ps) = dd at *
    rw [← dl] at r1 ⊢
    simp [r1]) (by rw [List.length_range]; omega) fun i hi => ⟨[A, W, .fz (.list (dI (flatP ps))), S, .fz (.int (i : Int))], rfl, [A, W, .fz (.list (dI (flatP ps))), S, .fz (.int (i : Int))], by
      have e : decide ((i : Int) % 2 = 0) = decide (i % 2 = 0) := by rw [Bool.eq_iff_iff, decide_eq_true_eq, decide_eq_true_eq]; omega
      generalize dI (flatP ps) = dd at *
      rw [← e]
      simp [cm, eqI], fun hc => ⟨[A, W, .fz (.list (dI (flatP ps))), S, .fz (.int (i : Int))], by
        have hi := List.mem_range.mp hi
        have hc := of_decide_eq_true hc
        have a0 : atI (dI (flatP ps)) (i : Int) = some (.int (at0 (flatP ps) i)) := at_int (by omega)
        have a1 : atI (dI (flatP ps)) ((i : Int) + 1) = some (.int (at0 (flatP ps) (i + 1))) := at_int (i := i + 1) (by omega)
        generalize at0 (flatP ps) i = x at *
        generalize at0 (flatP ps) (i + 1) = y at *
        generalize dI (flatP ps) = dd at *
        simp [a0, a1, mkT, small], rfl⟩, fun _ => rfl⟩]
  rw [evens, List.map_map]
  congr 1
  congr 1
  conv => rhs; rw [← range_getD ps (0, 0), List.map_map]
  refine List.map_congr_left fun j hj => ?_
  have := flat_at ps j (List.mem_range.mp hj)
  show PyData.tuple [.int (at0 (flatP ps) (2 * j)), .int (at0 (flatP ps) (2 * j + 1))] = _
  rw [this.1, this.2]
  rfl
def pairsOf : List Int → List Pr
  | a :: b :: r => (a, b) :: pairsOf r
  | _ => []
theorem flat_of : ∀ ns : List Int, ns.length % 2 = 0 → flatP (pairsOf ns) = ns
  | [], _ => rfl
  | [a], h => by simp at h
  | a :: b :: r, h => by
    show a :: b :: flatP (pairsOf r) = _
    rw [flat_of r (by simp only [List.length_cons] at h; omega)]
def deedW (w : Str) (ws : List Str) : Option PyData :=
  if ws.all numB = true then (if w = "made" then (if ws.length = 0 ∨ ws.length % 2 = 1 then none else some (.tuple [.str "made", .tuple ((pairsOf (ws.map valW)).map encP)])) else (match dc_SIZES.lookup w with
    | some k => if k = (ws.length : Int) then some (.tuple (.str w :: dI (ws.map valW))) else none
    | none => none)) else none
theorem made_no : dc_SIZES.lookup ("made" : Str) = none := by decide +kernel
theorem read_deed_g {a w : Str} {ws : List Str} (hs : oSplit (.str a) [.str " "] = some (.str w :: ws.map PyData.str)) (ht : tot (w :: ws) ≤ 90000) : F_read_deed [.str a] = match deedW w ws with
    | some d => .ok (.fz d)
    | none => .exc "BadText" := by
  have tl0 := tot_len (w :: ws)
  rw [List.length_cons] at tl0
  have nn := numbers_in_g (ws := ws) (by omega) fun x hx => by
    have := tot_mem (List.mem_cons_of_mem w hx)
    omega
  have c := cut1 (.str w) (ws.map PyData.str)
  have ix0 : ∀ xs : List PyData, atI (PyData.str w :: xs) 0 = some (.str w) := fun xs => by unfold atI ixN; simp
  have cm : ∀ x : Int, cMod x 2 = true := fun x => decide_eq_true (by decide)
  have ld : (dI (ws.map valW)).length = ws.length := by unfold dI; rw [List.length_map, List.length_map]
  have fo := flat_of (ws.map valW)
  rw [List.length_map] at fo
  show toOut (g_read_deed _) = _
  unfold deedW
  by_cases ha : ws.all numB = true
  · rw [if_pos ha] at nn ⊢
    have sl : small (1 + (dI (ws.map valW)).length) = true := small_of (by omega)
    have sl2 : small ((dI (ws.map valW)).length + 1) = true := small_of (by omega)
    have sl3 : (dI (ws.map valW)).length ≤ 100000 := by omega
    have sl4 : small (dI (ws.map valW)).length = true := small_of (by omega)
    by_cases hm : w = "made"
    · rw [if_pos hm]
      subst hm
      by_cases h0 : ws.length = 0 ∨ ws.length % 2 = 1
      · rw [if_pos h0]
        rw [← ld] at h0
        generalize dI (ws.map valW) = dn at *
        generalize ws.map PyData.str = wl at *
        by_cases z0 : dn.length = 0
        · have z0' : dn = [] := List.eq_nil_of_length_eq_zero z0
          subst z0'
          simp [g_read_deed, hs, c, nn, ix0, eqS, eqI, small]
        · have z1 : (dn.length : Int) % 2 = 1 := by omega
          have z2 : ¬ ((dn.length : Int) = 0) := by omega
          have z3 : dn ≠ [] := fun z => z0 (by rw [z]; rfl)
          simp [g_read_deed, hs, c, nn, ix0, eqS, eqI, sl4, z1, z2, z3, cm]
      · rw [if_neg h0]
        have pn := pairs_in_n (pairsOf (ws.map valW)) (by
          have f := flat_len (pairsOf (ws.map valW))
          rw [fo (by omega), List.length_map] at f
          omega)
        rw [fo (by omega)] at pn
        rw [← ld] at h0
        generalize (pairsOf (ws.map valW)).map encP = pm at *
        generalize dI (ws.map valW) = dn at *
        generalize ws.map PyData.str = wl at *
        have z1 : ¬ ((dn.length : Int) % 2 = 1) := by omega
        have z2 : ¬ ((dn.length : Int) = 0) := by omega
        have z3 : dn ≠ [] := fun z => h0 (.inl (by rw [z]; rfl))
        simp [g_read_deed, hs, c, nn, ix0, eqS, eqI, sl4, z1, z2, z3, cm, pn, mkT, show small 2 = true from rfl]
    · rw [if_neg hm]
      cases hk : dc_SIZES.lookup w with
      | none =>
        have m1 : oNInK dc_SIZES (.str w) = some (.bool true) := by
          show some (PyData.bool (!(dc_SIZES.lookup w).isSome)) = _
          rw [hk]; rfl
        generalize dI (ws.map valW) = dn at *
        generalize ws.map PyData.str = wl at *
        simp [g_read_deed, hs, c, nn, ix0, eqS, hm, m1]
      | some k =>
        have m1 : oNInK dc_SIZES (.str w) = some (.bool false) := by
          show some (PyData.bool (!(dc_SIZES.lookup w).isSome)) = _
          rw [hk]; rfl
        have m2 : oItK dc_SIZES (.str w) = some (.int k) := by
          show (dc_SIZES.lookup w).map PyData.int = _
          rw [hk]; rfl
        dsimp only
        by_cases hz : k = (ws.length : Int)
        · rw [if_pos hz]
          rw [← ld] at hz
          generalize dI (ws.map valW) = dn at *
          generalize ws.map PyData.str = wl at *
          simp [g_read_deed, hs, c, nn, ix0, eqS, hm, m1, m2, oNE, hz, mkT, sl, sl2, sl3, sl4, show small 1 = true from rfl]
        · rw [if_neg hz]
          rw [← ld] at hz
          generalize dI (ws.map valW) = dn at *
          generalize ws.map PyData.str = wl at *
          simp [g_read_deed, hs, c, nn, ix0, eqS, hm, m1, m2, oNE, hz, sl4]
  · rw [if_neg ha] at nn ⊢
    generalize ws.map PyData.str = wl at *
    simp [g_read_deed, hs, c, nn]
def szD : PyData := .dict [(.str "raw", .int 0), (.str "come", .int 4), (.str "go", .int 3), (.str "strike_lot", .int 1), (.str "strike_out", .int 1), (.str "lay", .int 2), (.str "call_back", .int 1)]
theorem look_g (w : Str) : ∀ kvs : List (Str × Int), lkK (kvs.map fun z => (Sum.inr z.1 : Key)) (kvs.map fun z => PyData.int z.2) (.inr w) = (kvs.lookup w).map PyData.int
  | [] => rfl
  | (k, v) :: r => by
    rw [List.map_cons, List.map_cons, List.lookup_cons]
    unfold lkK
    by_cases h : k = w
    · subst h
      rw [if_pos rfl, beq_self_eq_true]
      rfl
    · have hb : (w == k) = false := by simpa using fun e => h e.symm
      rw [if_neg (fun e => h (Sum.inr.inj e)), hb]
      exact look_g w r
theorem sz_look (w : Str) : dlk szD (.str w) = some ((dc_SIZES.lookup w).map PyData.int) := by
  rw [← look_g w dc_SIZES]
  rfl
theorem sz_dix {w : Str} {k : Int} (h : dc_SIZES.lookup w = some k) : oDix szD (.str w) = some (.int k) := by
  have m := PySem.mem_of_lookup h
  unfold dc_SIZES at m
  simp only [List.mem_cons, List.not_mem_nil, or_false, Prod.mk.injEq] at m
  rcases m with ⟨rfl, rfl⟩ | ⟨rfl, rfl⟩ | ⟨rfl, rfl⟩ | ⟨rfl, rfl⟩ | ⟨rfl, rfl⟩ | ⟨rfl, rfl⟩ | ⟨rfl, rfl⟩ <;> rfl
theorem l_read_g {a w : Str} {ws : List Str} (hs : oSplit (.str a) [.str " "] = some (.str w :: ws.map PyData.str)) (ht : tot (w :: ws) ≤ 90000) : F_l_read [.str a] = .ok (.fz ((deedW w ws).getD .none)) := by
  have tl0 := tot_len (w :: ws)
  rw [List.length_cons] at tl0
  have nn := figures_g (ws := ws) (by omega) fun x hx => by
    have := tot_mem (List.mem_cons_of_mem w hx)
    omega
  have c := cut1 (.str w) (ws.map PyData.str)
  have ix0 : ∀ xs : List PyData, atI (PyData.str w :: xs) 0 = some (.str w) := fun xs => by unfold atI ixN; simp
  have cm : ∀ x : Int, cMod x 2 = true := fun x => decide_eq_true (by decide)
  have ld : (dI (ws.map valW)).length = ws.length := by unfold dI; rw [List.length_map, List.length_map]
  have fo := flat_of (ws.map valW)
  rw [List.length_map] at fo
  have ez : ∀ A B C : Sl, (sSet 3 (fFrz (nDisp (nsCons "raw" (nE (Fx.ret (.int 0))) (nsCons "come" (nE (Fx.ret (.int 4))) (nsCons "go" (nE (Fx.ret (.int 3))) (nsCons "strike_lot" (nE (Fx.ret (.int 1))) (nsCons "strike_out" (nE (Fx.ret (.int 1))) (nsCons "lay" (nE (Fx.ret (.int 2))) (nsCons "call_back" (nE (Fx.ret (.int 1))) nsNil))))))))) ) [A, B, C, .un, .un] = .nx [A, B, C, .fz szD, .un] := fun A B C => rfl
  have dl := sz_look w
  have dx : ∀ k, dc_SIZES.lookup w = some k → oDix szD (.str w) = some (.int k) := fun k h => sz_dix h
  have en := oNE_nil (n := 3) (ds := dI (ws.map valW)) (by decide) (gi_ints 1 (ws.map valW))
  have iN : isN .none = true := rfl
  have iL : ∀ ds, isN (.list ds) = false := fun _ => rfl
  show toOut (g_l_read _) = _
  unfold deedW g_l_read
  by_cases ha : ws.all numB = true
  · rw [if_pos ha] at nn ⊢
    have sl : small (1 + (dI (ws.map valW)).length) = true := small_of (by omega)
    have sl2 : small ((dI (ws.map valW)).length + 1) = true := small_of (by omega)
    have sl3 : (dI (ws.map valW)).length ≤ 100000 := by omega
    have sl4 : small (dI (ws.map valW)).length = true := small_of (by omega)
    rw [seq_nx (ρ1 := [.fz (.str a), .fz (.list (.str w :: ws.map PyData.str)), .un, .un, .un]) (by
      generalize ws.map PyData.str = wl at *
      simp [hs])]
    rw [seq_nx (ρ1 := [.fz (.str a), .fz (.list (.str w :: ws.map PyData.str)), .fz (.list (dI (ws.map valW))), .un, .un]) (by
      generalize ws.map PyData.str = wl at *
      generalize dI (ws.map valW) = dn at *
      simp [c, nn])]
    rw [seq_nx (ez _ _ _)]
    generalize szD = SD at *
    by_cases hm : w = "made"
    · rw [if_pos hm]
      subst hm
      rw [made_no] at dl
      by_cases h0 : ws.length = 0 ∨ ws.length % 2 = 1
      · rw [if_pos h0]
        rw [← ld] at h0
        generalize dI (ws.map valW) = dn at *
        generalize ws.map PyData.str = wl at *
        by_cases z0 : dn.length = 0
        · have z0' : dn = [] := List.eq_nil_of_length_eq_zero z0
          subst z0'
          simp [ix0, eqS, eqI, small, iL, en, mkL, dl]
        · have z1 : ¬ ((dn.length : Int) % 2 = 0) := by omega
          have z3 : dn ≠ [] := fun z => z0 (by rw [z]; rfl)
          have z4 : dn.isEmpty = false := List.isEmpty_eq_false_iff.mpr z3
          rw [z4] at en
          simp [ix0, eqS, eqI, sl4, z1, z3, cm, iL, en, mkL, dl, show small 0 = true from rfl]
      · rw [if_neg h0]
        have pq := fun A W S => read_pairs A W S (pairsOf (ws.map valW)) (by
          have f := flat_len (pairsOf (ws.map valW))
          rw [fo (by omega), List.length_map] at f
          omega)
        rw [fo (by omega)] at pq
        have pl : ((pairsOf (ws.map valW)).map encP).length ≤ 100000 := by
          have f := flat_len (pairsOf (ws.map valW))
          rw [fo (by omega), List.length_map] at f
          rw [List.length_map]
          omega
        rw [← ld] at h0
        generalize (pairsOf (ws.map valW)).map encP = pm at *
        generalize dI (ws.map valW) = dn at *
        generalize ws.map PyData.str = wl at *
        have z1 : (dn.length : Int) % 2 = 0 := by omega
        have z3 : dn ≠ [] := fun z => h0 (.inl (by rw [z]; rfl))
        have z4 : dn.isEmpty = false := List.isEmpty_eq_false_iff.mpr z3
        rw [z4] at en
        simp [ix0, eqS, eqI, sl4, z1, z3, cm, pq, pl, mkT, mkL, iL, en, show small 2 = true from rfl, show small 0 = true from rfl]
    · rw [if_neg hm]
      cases hk : dc_SIZES.lookup w with
      | none =>
        rw [hk] at dl
        generalize dI (ws.map valW) = dn at *
        generalize ws.map PyData.str = wl at *
        simp [ix0, eqS, hm, iL, dl]
      | some k =>
        rw [hk] at dl
        have m2 := dx k hk
        dsimp only
        by_cases hz : k = (ws.length : Int)
        · rw [if_pos hz]
          rw [← ld] at hz
          generalize dI (ws.map valW) = dn at *
          generalize ws.map PyData.str = wl at *
          simp [ix0, eqS, hm, iL, dl, m2, oNE, hz, mkT, sl, sl2, sl3, sl4, show small 1 = true from rfl]
        · rw [if_neg hz]
          rw [← ld] at hz
          generalize dI (ws.map valW) = dn at *
          generalize ws.map PyData.str = wl at *
          simp [ix0, eqS, hm, iL, dl, m2, oNE, hz, sl4]
  · rw [if_neg ha] at nn ⊢
    rw [seq_nx (ρ1 := [.fz (.str a), .fz (.list (.str w :: ws.map PyData.str)), .un, .un, .un]) (by
      generalize ws.map PyData.str = wl at *
      simp [hs])]
    rw [seq_nx (ρ1 := [.fz (.str a), .fz (.list (.str w :: ws.map PyData.str)), .fz .none, .un, .un]) (by
      generalize ws.map PyData.str = wl at *
      simp [c, nn])]
    rw [seq_nx (ez _ _ _)]
    generalize szD = SD at *
    generalize ws.map PyData.str = wl at *
    simp [iN]
theorem bt_in : ("BadText" : Str) ∈ exL := by decide +kernel
theorem bt_m : mEx "BadText" = some true := by decide +kernel
theorem bt_1 : is_BadText "BadText" = true := by decide +kernel
theorem bt_2 : is_BadMinutes "BadText" = false := by decide +kernel
theorem told_g {a w : Str} {ws : List Str} (hs : oSplit (.str a) [.str " "] = some (.str w :: ws.map PyData.str)) (ht : tot (w :: ws) ≤ 90000) : F_l_told [.str a] = .ok (.fz ((deedW w ws).getD .none)) := by
  have r := read_deed_g hs ht
  show toOut (g_l_told _) = _
  cases e : deedW w ws with
  | some d =>
    rw [e] at r
    unfold g_l_told
    generalize F_read_deed = F at *
    simp [sTryAs, r]
  | none =>
    rw [e] at r
    unfold g_l_told
    generalize F_read_deed = F at *
    simp [sTryAs, r, bt_in, bt_m, bt_1, bt_2, is_ValueError, allA_const]
theorem deed_gd {w : Str} {ws : List Str} (hl : ws.length ≤ 90000) : gd 8 ((deedW w ws).getD .none) = true := by
  have ni : ∀ ns : List Int, (dI ns).all (gd 7) = true := fun ns => by
    unfold dI
    rw [List.all_map]
    exact List.all_eq_true.mpr fun _ _ => rfl
  have np : ∀ ps : List Pr, (ps.map encP).all (gd 6) = true := fun ps => by
    rw [List.all_map]
    exact List.all_eq_true.mpr fun _ _ => rfl
  unfold deedW
  by_cases ha : ws.all numB = true
  · rw [if_pos ha]
    by_cases hm : w = "made"
    · rw [if_pos hm]
      by_cases h0 : ws.length = 0 ∨ ws.length % 2 = 1
      · rw [if_pos h0]; rfl
      · rw [if_neg h0]
        have fo := flat_of (ws.map valW) (by rw [List.length_map]; omega)
        have f := flat_len (pairsOf (ws.map valW))
        rw [fo, List.length_map] at f
        have n := np (pairsOf (ws.map valW))
        have sm : small ((pairsOf (ws.map valW)).map encP).length = true := small_of (by rw [List.length_map]; omega)
        show (small 2 && ([PyData.str "made", .tuple ((pairsOf (ws.map valW)).map encP)]).all (gd 7)) = true
        rw [List.all_cons, List.all_cons, List.all_nil]
        show (true && (true && (((small ((pairsOf (ws.map valW)).map encP).length && ((pairsOf (ws.map valW)).map encP).all (gd 6))) && true))) = true
        rw [sm, n]; rfl
    · rw [if_neg hm]
      cases hk : dc_SIZES.lookup w with
      | none => rfl
      | some k =>
        dsimp only
        by_cases hz : k = (ws.length : Int)
        · rw [if_pos hz]
          show (small (dI (ws.map valW)).length.succ && (PyData.str w :: dI (ws.map valW)).all (gd 7)) = true
          rw [List.all_cons, ni, small_of (by unfold dI; rw [List.length_map, List.length_map]; omega)]
          rfl
        · rw [if_neg hz]; rfl
  · rw [if_neg ha]; rfl
def sgs : Str := " !#$&'()*+,-./0123456789:;<=>?@ABCDEFGHIJKLMNOPQRSTUVWXYZ[]^_abcdefghijklmnopqrstuvwxyz{|}~"
theorem sgs_len : 0 < sgs.length ∧ sgs.length ≤ 200 := by decide +kernel
theorem fig_len : ("0123456789" : Str).length = 10 := by decide +kernel
noncomputable def bendT : Rho → Fl := (sSeq (sSet 1 (fBS oJoin (.e (Fx.ret (.str " "))) [(.v 3)]))
    (sSeq (sIf (fB (fOp oGt (.v 5) (.e (Fx.ret (.int 4))))) (sSeq (sSet 4 (fCallI 0 F_l_pick (fCons (fOp oAdd (.e (fCB oLen [(.v 1)])) (.e (Fx.ret (.int 1)))) fNil)))
    (sSet 1 (fOp oCatS (.e (fOp oCatS (.e (fSlS (fVar 1) fNoP (fP (fVar 4)))) (.e (fOp oIx (.v 2) (.e (fCallI 0 F_l_pick (fCons (fCB oLen [(.v 2)]) fNil))))))) (.e (fSlS (fVar 1) (fP (fOp oAdd (.v 4) (.e (fCallI 0 F_l_pick (fCons (Fx.ret (.int 2)) fNil))))) fNoP))))) sNil)
    (sRetV0 1)))
theorem tot_app (A B : List Str) : tot (A ++ B) = tot A + tot B := by
  unfold tot
  rw [List.map_append, List.sum_append, List.length_append]
  omega
theorem tot_set : ∀ (W : List Str) (i : Nat) (x : Str), tot (W.set i x) ≤ tot W + x.length
  | [], _, _ => by simp
  | w :: W, 0, x => by rw [List.set_cons_zero, tot_cons, tot_cons]; omega
  | w :: W, i + 1, x => by
    rw [List.set_cons_succ, tot_cons, tot_cons]
    have := tot_set W i x
    omega
theorem tot_erase : ∀ (W : List Str) (i : Nat), tot (W.eraseIdx i) ≤ tot W
  | [], _ => by simp
  | w :: W, 0 => by rw [List.eraseIdx_cons_zero, tot_cons]; omega
  | w :: W, i + 1 => by
    rw [List.eraseIdx_cons_succ, tot_cons, tot_cons]
    have := tot_erase W i
    omega
theorem ch_at {z : Str} {x : Int} (h0 : 0 ≤ x) (h1 : x < (z.length : Int)) : ∃ c, atI z.cps.toList x = some c := by
  have e : z.cps.toList.length = z.length := Array.length_toList ..
  unfold atI
  rw [ixN_in h0 (by rw [e]; exact h1)]
  exact ⟨_, List.getElem?_eq_getElem (by rw [e]; omega)⟩
theorem join_g {W : List Str} (hW : tot W ≤ 16000000) : ∃ b, oJoin (.str " ") [.list (W.map PyData.str)] = some (.str b) ∧ b.length ≤ tot W := by
  refine ⟨Txt.join sp W, ?_, ?_⟩
  · show (match asStrs (W.map PyData.str) with
      | some ys => if (ys.map fun z : Str => z.length).sum + ys.length * sp.length ≤ 16777216 then some (PyData.str (Txt.join sp ys)) else none
      | none => none) = _
    rw [asStrs_map]
    show (if (W.map fun z : Str => z.length).sum + W.length * sp.length ≤ 16777216 then some (PyData.str (Txt.join sp W)) else none) = _
    rw [if_pos (by
      rw [show sp.length = 1 from by decide +kernel]
      unfold tot at hW
      omega)]
  · rw [join_eq, len_tl, tl_join, tl_sp]
    have a := joinL_len [32] (W.map tl)
    rw [List.map_map, List.length_map] at a
    have e : (List.length ∘ tl) = fun w : Str => w.length := funext fun w => (len_tl w).symm
    rw [e] at a
    unfold tot
    simp only [List.length_cons, List.length_nil] at a
    omega
theorem tail_ok {io : List PyData} (hd : Dw io) {W : List Str} {a : Str} {p y : Int} {s6 : Sl} (hW : tot W ≤ 100000) (hy : 4 < y → tot W ≤ 46000) : ∃ (b : Str) (io' : List PyData) (ρ' : Rho), toOutI (bendT [.ow io, .fz (.str a), .fz (.str sgs), .ow (W.map PyData.str), .fz (.int p), .fz (.int y), s6]) = .ok (.fz (.str b), io') ∧ Dw io' ∧ b.length ≤ (if 4 < y then 2 * tot W + 1 else tot W) := by
  obtain ⟨b, ej, lb⟩ := join_g (W := W) (by omega)
  unfold bendT
  rw [seq_nx (ρ1 := [.ow io, .fz (.str b), .fz (.str sgs), .ow (W.map PyData.str), .fz (.int p), .fz (.int y), s6]) (by
    generalize W.map PyData.str = ds at *
    simp [ej])]
  by_cases h4 : 4 < y
  · have hw := hy h4
    rw [if_pos h4]
    have sb : small b.length = true := small_of (by omega)
    obtain ⟨x, io1, e1, d1, l1, g1⟩ := pick_ok (m := (b.length : Int) + 1) hd (by omega) (by omega)
    have ls := sgs_len
    have ss : small sgs.length = true := small_of (by omega)
    obtain ⟨z, io2, e2, d2, l2, g2⟩ := pick_ok (m := (sgs.length : Int)) d1 (by omega) (by omega)
    obtain ⟨c, hc⟩ := ch_at (z := sgs) l2 g2
    obtain ⟨v, io3, e3, d3, l3, g3⟩ := pick_ok (m := 2) d2 (by decide) (by decide)
    have c1 := cutS_length b none (some x)
    have c2 := cutS_length b (some (x + v)) none
    have q1 : small (cutS b none (some x)).length = true := small_of (by omega)
    have q2 : small (cutS b (some (x + v)) none).length = true := small_of (by omega)
    have la : ((cutS b none (some x)) ++ (⟨#[c]⟩ : Str)).length = (cutS b none (some x)).length + 1 := by
      rw [len_tl, tl_append, List.length_append, ← len_tl]; rfl
    have q3 : small ((cutS b none (some x)) ++ (⟨#[c]⟩ : Str)).length = true := small_of (by omega)
    have s1 : small (⟨#[c]⟩ : Str).length = true := rfl
    refine ⟨((cutS b none (some x)) ++ (⟨#[c]⟩ : Str)) ++ cutS b (some (x + v)) none, io3, [], ?_, d3, ?_⟩
    · generalize W.map PyData.str = ds at *
      have cA : ∀ i j : Str, small i.length = true → small j.length = true → oCatS (.str i) (.str j) = some (.str (i ++ j)) := fun i j h k => if_pos ⟨h, k⟩
      have k1 := cA _ _ q1 s1
      have k2 := cA _ _ q3 q2
      have o1 : oSlS none (some x) (.str b) = some (.str (cutS b none (some x))) := if_pos sb
      have o2 : oSlS (some (x + v)) none (.str b) = some (.str (cutS b (some (x + v)) none)) := if_pos sb
      simp [h4, sb, ss, e1, e2, e3, hc, k1, k2, o1, o2]
    · rw [len_tl, tl_append, List.length_append, ← len_tl, ← len_tl]
      omega
  · rw [if_neg h4]
    refine ⟨b, io, [], ?_, hd, lb⟩
    generalize W.map PyData.str = ds at *
    simp [h4]
theorem if_no {k y : Int} (h : ¬ y = k) {s : Rho → Fl} {a0 a1 a2 a3 a4 a6 : Sl} : (sIf (fB (fOp oEQ (.v 5) (.e (Fx.ret (.int k))))) s sNil) [a0, a1, a2, a3, a4, .fz (.int y), a6] = .nx [a0, a1, a2, a3, a4, .fz (.int y), a6] := by simp [eqI, h]
theorem at_str {W : List Str} {p : Int} (h0 : 0 ≤ p) (h1 : p < (W.length : Int)) : ∃ w, w ∈ W ∧ atI (W.map PyData.str) p = some (.str w) := by
  have hl : p.toNat < W.length := by omega
  refine ⟨W[p.toNat], List.getElem_mem hl, ?_⟩
  unfold atI
  rw [ixN_in h0 (by rw [List.length_map]; exact h1)]
  show (W.map PyData.str)[p.toNat]? = _
  rw [List.getElem?_map, List.getElem?_eq_getElem hl]
  rfl
def ods : List Str := (["", "-1", "0", "9999999", "10000000"] : List Str) ++ ((["raw", "made", "lay"] : List Str) ++ (["1/2", "+1", "1_0", "1.0", "0x1"] : List Str))
theorem ods_len : ∀ x ∈ ods, x.length ≤ 8 := by decide +kernel
theorem cat_len (a b : Str) : (a ++ b).length = a.length + b.length := by rw [len_tl, tl_append, List.length_append, ← len_tl, ← len_tl]
theorem map_erase : ∀ (W : List Str) (n : Nat), (W.eraseIdx n).map PyData.str = (W.map PyData.str).eraseIdx n
  | [], _ => rfl
  | w :: W, 0 => rfl
  | w :: W, n + 1 => by
    show PyData.str w :: (W.eraseIdx n).map PyData.str = PyData.str w :: (W.map PyData.str).eraseIdx n
    rw [map_erase W n]
theorem bent_ok {io : List PyData} (hd : Dw io) {a : Str} (hl : a.length ≤ 45000) : ∃ (b : Str) (io' : List PyData), F_l_bent_line io [.str a] = .ok (.fz (.str b), io') ∧ Dw io' ∧ b.length ≤ 2 * a.length + 10 := by
  obtain ⟨w, ws, _, hs, ht⟩ := split_g (a := a) (by omega)
  have hne : 0 < (w :: ws).length := by simp
  have htl := tot_len (w :: ws)
  have ew : (PyData.str w :: ws.map PyData.str) = (w :: ws).map PyData.str := rfl
  rw [ew] at hs
  generalize hW : w :: ws = W at *
  obtain ⟨p, io1, e1, d1, l1, g1⟩ := pick_ok (m := (W.length : Int)) hd (by omega) (by omega)
  obtain ⟨y, io2, e2, d2, l2, g2⟩ := pick_ok (m := 8) d1 (by decide) (by decide)
  obtain ⟨wp, wm, wa⟩ := at_str l1 g1
  have wl := tot_mem wm
  have dl : (W.map PyData.str).length = W.length := List.length_map ..
  have sl : small (W.map PyData.str).length = true := small_of (by omega)
  have sw : small wp.length = true := small_of (by omega)
  have kI := fun d => kSet_in (d := d) (ds := W.map PyData.str) l1 (by rw [dl]; exact g1)
  have cA : ∀ i j : Str, small i.length = true → small j.length = true → oCatS (.str i) (.str j) = some (.str (i ++ j)) := fun i j h k => if_pos ⟨h, k⟩
  have st : ∀ x : Str, (W.map PyData.str).set p.toNat (.str x) = (W.set p.toNat x).map PyData.str := fun x => List.map_set.symm
  show ∃ (b : Str) (io' : List PyData), toOutI (g_l_bent_line [.ow io, .fz (.str a), .un, .un, .un, .un, .un]) = _ ∧ _
  unfold g_l_bent_line
  rw [seq_nx (ρ1 := [.ow io, .fz (.str a), .fz (.str sgs), .un, .un, .un, .un]) (by simp [sgs])]
  rw [seq_nx (ρ1 := [.ow io, .fz (.str a), .fz (.str sgs), .ow (W.map PyData.str), .un, .un, .un]) (by
    generalize W.map PyData.str = ds at *
    simp [hs])]
  rw [seq_nx (ρ1 := [.ow io1, .fz (.str a), .fz (.str sgs), .ow (W.map PyData.str), .fz (.int p), .un, .un]) (by
    rw [← dl] at e1
    generalize W.map PyData.str = ds at *
    simp [e1])]
  rw [seq_nx (ρ1 := [.ow io2, .fz (.str a), .fz (.str sgs), .ow (W.map PyData.str), .fz (.int p), .fz (.int y), .un]) (by
    generalize W.map PyData.str = ds at *
    simp [e2])]
  have hy : y = 0 ∨ y = 1 ∨ y = 2 ∨ y = 3 ∨ y = 4 ∨ 4 < y := by omega
  rcases hy with rfl | rfl | rfl | rfl | rfl | hy
  · have tt : tot (W.take p.toNat ++ [wp] ++ W.drop p.toNat) = tot W + wp.length + 1 := by
      have e := tot_app (W.take p.toNat) (W.drop p.toNat)
      rw [List.take_append_drop] at e
      rw [tot_app, tot_app, tot_cons, show tot [] = 0 from rfl, e]
      omega
    obtain ⟨b, io', ρ', e, d', lb⟩ := tail_ok d2 (W := W.take p.toNat ++ [wp] ++ W.drop p.toNat) (a := a) (p := p) (y := 0) (s6 := .un) (by omega) (fun h => absurd h (by decide))
    rw [if_neg (by decide)] at lb
    refine ⟨b, io', ?_, d', by omega⟩
    rw [seq_nx (ρ1 := [.ow io2, .fz (.str a), .fz (.str sgs), .ow ((W.take p.toNat ++ [wp] ++ W.drop p.toNat).map PyData.str), .fz (.int p), .fz (.int 0), .un]) (by
      have em : (W.take p.toNat ++ [wp] ++ W.drop p.toNat).map PyData.str = (W.map PyData.str).take p.toNat ++ [.str wp] ++ (W.map PyData.str).drop p.toNat := by
        rw [List.map_append, List.map_append, List.map_take, List.map_drop]; rfl
      have sp : small p.natAbs = true := small_of (by omega)
      rw [em]
      generalize W.map PyData.str = ds at *
      simp [eqI, wa, sl, sp, l1, sMut, mutO, isOw])]
    rw [seq_nx (if_no (by decide)), seq_nx (if_no (by decide)), seq_nx (if_no (by decide)), seq_nx (if_no (by decide))]
    exact e
  · obtain ⟨b, io', ρ', e, d', lb⟩ := tail_ok d2 (W := W.eraseIdx p.toNat) (a := a) (p := p) (y := 1) (s6 := .un) (by have := tot_erase W p.toNat; omega) (fun h => absurd h (by decide))
    rw [if_neg (by decide)] at lb
    have te := tot_erase W p.toNat
    refine ⟨b, io', ?_, d', by omega⟩
    rw [seq_nx (if_no (by decide))]
    rw [seq_nx (ρ1 := [.ow io2, .fz (.str a), .fz (.str sgs), .ow ((W.eraseIdx p.toNat).map PyData.str), .fz (.int p), .fz (.int 1), .un]) (by
      have em : (W.eraseIdx p.toNat).map PyData.str = (W.map PyData.str).eraseIdx p.toNat := map_erase W p.toNat
      have ix : ixN (W.map PyData.str).length p = some p.toNat := ixN_in l1 (by rw [dl]; exact g1)
      have ga : (W.map PyData.str)[p.toNat]? = some (.str wp) := by
        unfold atI at wa
        rw [ix] at wa
        exact wa
      rw [em]
      generalize W.map PyData.str = ds at *
      simp [eqI, ix, ga, sl, isOw])]
    rw [seq_nx (if_no (by decide)), seq_nx (if_no (by decide)), seq_nx (if_no (by decide))]
    exact e
  · have tt := tot_set W p.toNat (("0" : Str) ++ wp)
    have l0 : (("0" : Str) ++ wp).length = 1 + wp.length := cat_len _ _
    obtain ⟨b, io', ρ', e, d', lb⟩ := tail_ok d2 (W := W.set p.toNat (("0" : Str) ++ wp)) (a := a) (p := p) (y := 2) (s6 := .un) (by omega) (fun h => absurd h (by decide))
    rw [if_neg (by decide)] at lb
    refine ⟨b, io', ?_, d', by omega⟩
    rw [seq_nx (if_no (by decide)), seq_nx (if_no (by decide))]
    rw [seq_nx (ρ1 := [.ow io2, .fz (.str a), .fz (.str sgs), .ow ((W.set p.toNat (("0" : Str) ++ wp)).map PyData.str), .fz (.int p), .fz (.int 2), .un]) (by
      have k := kI (.str (("0" : Str) ++ wp))
      rw [st] at k
      have c := cA "0" wp (by decide +kernel) sw
      generalize (W.set p.toNat (("0" : Str) ++ wp)).map PyData.str = es at *
      generalize W.map PyData.str = ds at *
      simp [eqI, wa, c, k, sMut, mutO, isOw])]
    rw [seq_nx (if_no (by decide)), seq_nx (if_no (by decide))]
    exact e
  · obtain ⟨z, io3, e3, d3, l3, g3⟩ := pick_ok (m := 10) d2 (by decide) (by decide)
    obtain ⟨v, io4, e4, d4, l4, g4⟩ := pick_ok (m := 7) d3 (by decide) (by decide)
    obtain ⟨c, hc⟩ := ch_at (z := ("0123456789" : Str)) l3 (by rw [fig_len]; exact g3)
    have rl : (repS ⟨#[c]⟩ (1 + v).toNat).length = (1 + v).toNat := by
      rw [repS_len]
      show (1 + v).toNat * 1 = _
      omega
    have tt := tot_set W p.toNat (wp ++ repS ⟨#[c]⟩ (1 + v).toNat)
    rw [cat_len, rl] at tt
    obtain ⟨b, io', ρ', e, d', lb⟩ := tail_ok d4 (W := W.set p.toNat (wp ++ repS ⟨#[c]⟩ (1 + v).toNat)) (a := a) (p := p) (y := 3) (s6 := .un) (by omega) (fun h => absurd h (by decide))
    rw [if_neg (by decide)] at lb
    refine ⟨b, io', ?_, d', by omega⟩
    rw [seq_nx (if_no (by decide)), seq_nx (if_no (by decide)), seq_nx (if_no (by decide))]
    rw [seq_nx (ρ1 := [.ow io4, .fz (.str a), .fz (.str sgs), .ow ((W.set p.toNat (wp ++ repS ⟨#[c]⟩ (1 + v).toNat)).map PyData.str), .fz (.int p), .fz (.int 3), .un]) (by
      have k := kI (.str (wp ++ repS ⟨#[c]⟩ (1 + v).toNat))
      rw [st] at k
      have cc := cA wp (repS ⟨#[c]⟩ (1 + v).toNat) sw (small_of (by rw [rl]; omega))
      have rp : oRepS (.str ⟨#[c]⟩) (.int (1 + v)) = some (.str (repS ⟨#[c]⟩ (1 + v).toNat)) := if_pos ⟨by omega, by omega, by show 1 ≤ 1000; decide, Nat.le_refl _⟩
      have s10 : small ("0123456789" : Str).length = true := by decide +kernel
      generalize (W.set p.toNat (wp ++ repS ⟨#[c]⟩ (1 + v).toNat)).map PyData.str = es at *
      generalize W.map PyData.str = ds at *
      simp [eqI, wa, e3, e4, hc, s10, rp, cc, k, sMut, mutO, isOw])]
    rw [seq_nx (if_no (by decide))]
    exact e
  · obtain ⟨z, io3, e3, d3, l3, g3⟩ := pick_ok (m := 13) d2 (by decide) (by decide)
    obtain ⟨x, xm, xa⟩ := at_str (W := ods) l3 g3
    have xl := ods_len x xm
    have tt := tot_set W p.toNat x
    obtain ⟨b, io', ρ', e, d', lb⟩ := tail_ok d3 (W := W.set p.toNat x) (a := a) (p := p) (y := 4) (s6 := .fz (.list (ods.map PyData.str))) (by omega) (fun h => absurd h (by decide))
    rw [if_neg (by decide)] at lb
    refine ⟨b, io', ?_, d', by omega⟩
    rw [seq_nx (if_no (by decide)), seq_nx (if_no (by decide)), seq_nx (if_no (by decide)), seq_nx (if_no (by decide))]
    rw [seq_nx (ρ1 := [.ow io3, .fz (.str a), .fz (.str sgs), .ow ((W.set p.toNat x).map PyData.str), .fz (.int p), .fz (.int 4), .fz (.list (ods.map PyData.str))]) (by
      have k := kI (.str x)
      rw [st] at k
      have eo : ods.map PyData.str = [PyData.str "", .str "-1", .str "0", .str "9999999", .str "10000000", .str "raw", .str "made", .str "lay", .str "1/2", .str "+1", .str "1_0", .str "1.0", .str "0x1"] := rfl
      rw [eo] at xa ⊢
      generalize (W.set p.toNat x).map PyData.str = es at *
      generalize W.map PyData.str = ds at *
      simp [eqI, e3, xa, k, sMut, mutO, isOw, mkL, show small 13 = true from rfl])]
    exact e
  · obtain ⟨b, io', ρ', e, d', lb⟩ := tail_ok d2 (W := W) (a := a) (p := p) (y := y) (s6 := .un) (by omega) (fun _ => by omega)
    rw [if_pos hy] at lb
    refine ⟨b, io', ?_, d', by omega⟩
    rw [seq_nx (if_no (by omega)), seq_nx (if_no (by omega)), seq_nx (if_no (by omega)), seq_nx (if_no (by omega)), seq_nx (if_no (by omega))]
    exact e
theorem turn55 {io : List PyData} (hd : Dw io) (s2 s3 s4 s5 : Sl) (h2 : Fu s2) (h3 : Fu s3) (h4 : Fu s4) (h5 : Fu s5) : ∃ (io' : List PyData) (s3' s4' : Sl), Dw io' ∧ Fu s3' ∧ Fu s4' ∧ b_law_2 [.un, .ow io, s2, s3, s4, s5] = .nx [.un, .ow io', s2, s3', s4', s5] := by
  obtain ⟨d, io1, e1, d1, O⟩ := any_deed_ok hd
  have e2 := l_line_n O
  have l0 := lineS_len O.line
  generalize lineS d.words = ln at *
  obtain ⟨x, io2, e3, d2, l2, g2⟩ := pick_ok (m := 3) d1 (by decide) (by decide)
  have hb : ∀ n : Nat, n ≤ 2 → ∀ (a : Str) (io : List PyData) (s4 : Sl) (k : Int), Dw io → Fu s4 → a.length + 10 ≤ 20010 * 2 ^ (2 - n) → ∃ (b : Str) (io' : List PyData) (s4' : Sl), Dw io' ∧ Fu s4' ∧ b.length + 10 ≤ 20010 * 4 ∧ Fx.forE (gSet 4) b_law_1 (rng k n) [.un, .ow io, s2, .fz (.str a), s4, s5] = .nx [.un, .ow io', s2, .fz (.str b), s4', s5] := by
    intro n
    induction n with
    | zero => exact fun _ a io s4 k dw h4 hl => ⟨a, io, s4, dw, h4, hl, rfl⟩
    | succ n ih =>
      intro hn a io s4 k dw h4 hl
      have hp : (2 : Nat) ^ (2 - (n + 1)) ≤ 2 := by
        have : n = 0 ∨ n = 1 := by omega
        rcases this with rfl | rfl <;> decide
      have hp2 : 2 * (20010 * 2 ^ (2 - (n + 1))) = 20010 * 2 ^ (2 - n) := by
        have : n = 0 ∨ n = 1 := by omega
        rcases this with rfl | rfl <;> decide
      have hl2 : 20010 * 2 ^ (2 - (n + 1)) ≤ 20010 * 2 := Nat.mul_le_mul_left _ hp
      obtain ⟨b, io1, eb, d1, lb⟩ := bent_ok dw (a := a) (by omega)
      obtain ⟨c, io2, s4', d2, h4', lc, ec⟩ := ih (by omega) b io1 (.fz (.int k)) (k + 1) d1 Fu.fz (by omega)
      refine ⟨c, io2, s4', d2, h4', lc, ?_⟩
      have er : rng k (n + 1) = .int k :: rng (k + 1) n := by
        unfold rng
        rw [List.range_succ_eq_map, List.map_cons, List.map_map]
        congr 1
        · simp
        · refine List.map_congr_left fun i _ => ?_
          show PyData.int (k + ((i + 1 : Nat) : Int)) = PyData.int (k + 1 + (i : Int))
          congr 1
          omega
      rw [er]
      unfold Fx.forE
      have eg : gSet 4 (PyData.int k) [.un, .ow io, s2, .fz (.str a), s4, s5] = some [.un, .ow io, s2, .fz (.str a), .fz (.int k), s5] := rfl
      have et : b_law_1 [.un, .ow io, s2, .fz (.str a), .fz (.int k), s5] = .nx [.un, .ow io1, s2, .fz (.str b), .fz (.int k), s5] := by
        generalize hF : F_l_bent_line = F at *
        unfold b_law_1
        rw [hF]
        simp [eb]
      rw [eg]
      dsimp only
      rw [et]
      exact ec
  obtain ⟨b, io3, s4', d3, h4', lb, ef⟩ := hb x.toNat (by omega) ln io2 s4 0 d2 h4 (by
    have : 1 ≤ 2 ^ (2 - x.toNat) := Nat.one_le_two_pow
    have := Nat.mul_le_mul_left 20010 this
    omega)
  obtain ⟨w, ws, _, hs, ht⟩ := split_g (a := b) (by omega)
  have tg := told_g hs (by omega)
  have rg := l_read_g hs (by omega)
  have wl := tot_len (w :: ws)
  rw [List.length_cons] at wl
  have sm : F_l_same [(deedW w ws).getD .none, (deedW w ws).getD .none] = .ok (.fz (.bool true)) := F_same_refl (deed_gd (by omega))
  have r1 := oRng1_of (j := x) l2 (by omega)
  refine ⟨io3, .fz (.str b), s4', d3, Fu.fz, h4', ?_⟩
  unfold b_law_2
  rw [seq_nx (ρ1 := [.un, .ow io1, s2, .fz (.str ln), s4, s5]) (by
    generalize encT d = dd at *
    generalize F_l_any_deed = F at *
    generalize F_l_line = F2 at *
    simp [e1, e2])]
  rw [seq_nx ((sFor_eq (ds := rng 0 x.toNat) (ρ1 := [.un, .ow io2, s2, .fz (.str ln), s4, s5]) (by
    generalize F_l_pick = F at *
    simp [e3, r1])).trans ef)]
  generalize (deedW w ws).getD .none = dd at *
  generalize F_l_told = F at *
  generalize F_l_read = F2 at *
  generalize F_l_same = F3 at *
  simp [tg, rg, sm]
theorem odd_none {W : List Str} {a : Str} {w : Str} {ws : List Str} (hW : W = w :: ws) (ha : Txt.join sp W = a) (hf : ∀ x ∈ W, 32 ∉ tl x) (hl : a.length ≤ 1000) (hn : (deedW w ws).isNone = true) : F_l_told [.str a] = .ok (.fz .none) := by
  have e := split_join (y := sp) (s := 32) (S := []) tl_sp sp_kind (parts := W) (by rw [hW]; simp) hf
  rw [ha] at e
  obtain ⟨w', ws', es, hs, ht⟩ := split_g (a := a) (by omega)
  rw [e, hW] at es
  cases es
  have t := told_g hs (by omega)
  rw [Option.isNone_iff_eq_none.mp hn] at t
  exact t
def oddW : List (Str × List Str) := [("", []), ("", [""]), ("raw", [""]), ("", ["raw"]), ("made", []), ("made", ["1"]), ("Raw", []),
  ("raw\n", []), ("come", ["1", "2", "3"]), ("lay", ["1", "2", "3"]), ("made", ["1", "2", "3"])]
def oddS (x : Str × List Str) : Str := Txt.join sp (x.1 :: x.2)
theorem odd_told : ∀ x ∈ oddW, F_l_told [.str (oddS x)] = .ok (.fz .none) := by
  have few : ∀ x ∈ oddW, (oddS x).length ≤ 1000 := by decide +kernel
  have fr : ∀ x ∈ oddW, ∀ z ∈ x.1 :: x.2, 32 ∉ tl z := by decide +kernel
  have no : ∀ x ∈ oddW, (deedW x.1 x.2).isNone = true := by decide +kernel
  exact fun x hx => odd_none rfl rfl (fr x hx) (few x hx) (no x hx)
theorem law_math (ns : List Int) (h : ns.length ≤ 63) : ∃ ρ', g_law (stLaw 6 ns) = .ret (.fz (.bool true)) ρ' := by
  have e0 : stLaw 6 ns = [.un, .ow (cells ns), .un, .un, .un, .un] := rfl
  rw [e0]
  obtain ⟨ρ', ef, io, s2, s3, s4, d, h2, h3, h4, rfl⟩ := forE_inv (g := gSet 2) (s := b_law_2) (fun j ρ => ∃ io s2 s3 s4, Dw io ∧ Fu s2 ∧ Fu s3 ∧ Fu s4 ∧ ρ = [.un, .ow io, s2, s3, s4, .un]) (rng 0 7) 0 [.un, .ow (cells ns), .un, .un, .un, .un] ⟨cells ns, _, _, _, dw_cells ns, .inl rfl, .inl rfl, .inl rfl, rfl⟩ (by
    rintro j y ρ hy ⟨io, s2, s3, s4, dw, h2, h3, h4, rfl⟩
    obtain ⟨hj, rfl⟩ := rng_get hy
    obtain ⟨io', s3', s4', dw', h3', h4', e⟩ := turn55 dw (.fz (.int (0 + (j : Int)))) s3 s4 .un Fu.fz h3 h4 (.inl rfl)
    exact ⟨_, _, rfl, .inl e, io', _, s3', s4', dw', Fu.fz, h3', h4', rfl⟩)
  unfold g_law
  rw [seq_nx ((sFor_eq (ds := rng 0 7) (ρ1 := [.un, .ow (cells ns), .un, .un, .un, .un]) (by simp [show oRng1 [.int 7] = some (rng 0 7) from oRng1_of (j := 7) (by decide) (by decide)])).trans ef)]
  have q : q_law_1 [.un, .ow io, s2, s3, s4, .fz (.list (oddW.map fun x => PyData.str (oddS x)))] = .ok (oddW.map fun _ => PyData.bool true, [.un, .ow io, s2, s3, s4, .fz (.list (oddW.map fun x => PyData.str (oddS x)))]) := by
    unfold q_law_1
    rw [lc_all oddW (fun x => PyData.str (oddS x)) (fun _ => PyData.bool true) (ρ := [.un, .ow io, s2, s3, s4, .fz (.list (oddW.map fun x => PyData.str (oddS x)))]) (by simp) (by decide) fun x hx => ⟨[.un, .ow io, s2, .fz (.str (oddS x)), s4, .fz (.list (oddW.map fun x => PyData.str (oddS x)))], rfl, [.un, .ow io, s2, .fz (.str (oddS x)), s4, .fz (.list (oddW.map fun x => PyData.str (oddS x)))], by
      have g := odd_told x hx
      generalize oddS x = ox at *
      have iN : isN .none = true := rfl
      generalize F_l_told = F at *
      simp [g, iN], rfl⟩]
    show Res.ok (_, [_, _, _, keepFz (some s3), _, _]) = _
    rw [h3.kp]
  have ab : asBools (oddW.map fun _ => PyData.bool true) = some (oddW.map fun _ => true) := rfl
  have al : (oddW.map fun _ => true).all id = true := rfl
  refine ⟨[.un, .ow io, s2, s3, s4, .fz (.list (oddW.map fun x => PyData.str (oddS x)))], ?_⟩
  rw [seq_nx (ρ1 := [.un, .ow io, s2, s3, s4, .fz (.list (oddW.map fun x => PyData.str (oddS x)))]) (by
    have eo : (oddW.map fun x => PyData.str (oddS x)) = ((oddW.map oddS).map PyData.str) := by rw [List.map_map]; rfl
    have es : ∀ a b c d e f g h i j k : Str, oddW.map oddS = [a, b, c, d, e, f, g, h, i, j, k] → oddW.map (fun x => PyData.str (oddS x)) = [.str a, .str b, .str c, .str d, .str e, .str f, .str g, .str h, .str i, .str j, .str k] := fun _ _ _ _ _ _ _ _ _ _ _ z => by rw [eo, z]; rfl
    rw [es _ _ _ _ _ _ _ _ _ _ _ rfl]
    have j1 : oddS ("", []) = "" := by decide +kernel
    have j2 : oddS ("", [""]) = " " := by decide +kernel
    have j3 : oddS ("raw", [""]) = "raw " := by decide +kernel
    have j4 : oddS ("", ["raw"]) = " raw" := by decide +kernel
    have j5 : oddS ("made", []) = "made" := by decide +kernel
    have j6 : oddS ("made", ["1"]) = "made 1" := by decide +kernel
    have j7 : oddS ("Raw", []) = "Raw" := by decide +kernel
    have j8 : oddS ("raw\n", []) = "raw\n" := by decide +kernel
    have j9 : oddS ("come", ["1", "2", "3"]) = "come 1 2 3" := by decide +kernel
    have j10 : oddS ("lay", ["1", "2", "3"]) = "lay 1 2 3" := by decide +kernel
    have j11 : oddS ("made", ["1", "2", "3"]) = "made 1 2 3" := by decide +kernel
    rw [j1, j2, j3, j4, j5, j6, j7, j8, j9, j10, j11]
    simp [mkL, show small 11 = true from rfl])]
  generalize oddW.map (fun _ => PyData.bool true) = bl at *
  generalize oddW.map (fun _ => true) = cl at *
  generalize (oddW.map fun x => PyData.str (oddS x)) = dl at *
  simp [q, ab, al, Fx.sc]
end K55
namespace K55
open PySem L2 Fx Mm
abbrev R : PySem.W.OpenRow := PySem.W.OpenLaw.row PySem.Challenge.rw_drawback_k55_lines_read_or_refused
abbrev hk : PySem.W.Hook := hookD 5 fa fn tf tsD
def ob (s : PySem.W.SharedT) : AlD := obsDG 5 fa fn tf tsD (HandSHeadRun.getT s)
theorem ob_eq (s : PySem.W.SharedT) : ob s = hk.obs s.abs := obsDG_eq (HandSHeadRun.getT_eq s)
def loose : List Str := ([("CustomsError" : Str), ("BadText" : Str), ("BadMinutes" : Str), ("FIGURES" : Str), ("MOST_FIGURES" : Str), ("SIZES" : Str), ("number_in" : Str), ("numbers_in" : Str), ("pairs_in" : Str), ("read_deed" : Str), ("_law_begin" : Str), ("_law_line" : Str), ("_law_pick" : Str), ("_law_any_number" : Str), ("_law_any_deed" : Str), ("_law_bent_line" : Str), ("_law_same" : Str), ("_law_figure" : Str), ("_law_figures" : Str), ("_law_read" : Str), ("_law_told" : Str)] : List Str)
theorem run (w : World) : HandSHeadRun.RunEq R (PySem.W.view R.prog [24]) hk ob 4000 loose w :=
  Fx.run_split (Q := fun w => HandSHeadRun.RunEq R (PySem.W.view R.prog [24]) hk ob 4000 loose w) (fun src P b => by
    intro os
    cases b <;> kernel_rfl) w
end K55
open PySem PySem.W PySem.Calls PyProof.Rows
set_option maxHeartbeats 0 in
theorem PySem.Challenge.cw_drawback_k55_lines_read_or_refused_holds : PySem.Challenge.rw_drawback_k55_lines_read_or_refused.Holds := by
  w_on; o_law
  refine HandSHeadRun.head_any (r := OpenLaw.row PySem.Challenge.rw_drawback_k55_lines_read_or_refused) (q := view (OpenLaw.row PySem.Challenge.rw_drawback_k55_lines_read_or_refused).prog [24]) (H := K55.hk) (ob := K55.ob) (M := 4000) (loose := K55.loose) (d := HandSHeadRun.topDef (OpenLaw.row PySem.Challenge.rw_drawback_k55_lines_read_or_refused).prog 24) (kwd := []) K55.ob_eq
    (by kernel_rfl) (fun s => by kernel_rfl) K55.run (by kernel_rfl) (by kernel_rfl) (by kernel_rfl) (by rfl) (by first | assumption | decide +kernel) (by decide +kernel) ⟨rfl, rfl, rfl, rfl, rfl, by decide +kernel⟩ ?hw ?hc
  case hw => w_witness2
  case hc =>
    refine LamX.walk_ofTsE (l := PySem.Challenge.rw_drawback_k55_lines_read_or_refused) (n := 63) (k := 10) (x := "_law_script") (CX := fun _ => L2.CX0) rfl (by decide) (by kernel_rfl) ⟨rfl, by decide, by decide⟩ ?F (fun _ _ _ _ _ z => z)
    intro w mg fa h Y G hmg0
    obtain ⟨K, KX, ⟨c, t⟩, dd⟩ := Y
    have hmg : mg ("law" : PySem.Str) = some (.ref fa) := by
      have e : (HandSHeadRun.topDef (OpenLaw.row PySem.Challenge.rw_drawback_k55_lines_read_or_refused).prog 24).name = ("law" : PySem.Str) := by kernel_rfl
      rw [← e]
      exact hmg0
    have T : Fx.Top K55.fa K55.fn K mg := ⟨c, h, KX, G⟩
    have e := hmg.symm.trans (T.glo 33 (x := "law"))
    cases e
    exact ⟨K, KX, Fx.law_at c t KX G (T.def_ (x := "law") (st := K55.s_law) 15) (fun _ _ _ _ _ _ _ _ => BindsTo.of_eq rfl) (fun base T => @K55.c_law (Fx.tzOf K55.tf K) _ _ _ _ _ dd T) (fun ns hl => @K55.law_math ⟨[], fun _ => 0⟩ ns hl)⟩
