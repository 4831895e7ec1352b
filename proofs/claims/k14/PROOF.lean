import PyProof.Rows.All
import Wide.All
import OpenK.AllK
import Wide.FinOn
import HandS.ForMost
import HandS.ForExc
import HandS.Wide
import HandS.TryMany
import HandS.Exc
import HandS.Style
import HandS.SortInts
import HandS.IsInst
import HandS.WordsDict
import HandS.SetFor
import HandS.TupAny
import HandS.TupMul
import HandS.Conv
import HandS.RevRange
import HandS.Star
import HandS.Zip
import HandS.Iter
import HandS.Text
import KE.GoesEnum
import HandS.Defaults
import HandS.Head0
import HandS.Head1
import HandS.Head2
import HandS.HeadEnd
import HandS.HeadHook1
import HandS.HeadHook2
import HandS.Deep
import HandS.SetKeys
import HandS.Strs
import KE.KDictList
import HandS.ListItems
import HandS.FStr
import HandS.ExcInit
import KE.SortData
import HandS.DictTup
import KE.KDictDisplayH
import KE.KDictItemsList
import KE.KDictCopyH
import KE.DataMinMax
import HandS.ExcField
import HandS.ExcIs
import HandS.ExcValue
import HandS.Property
import PyProof.Rows.RowBridgeK
import Lean
import PySem.Challenge.RW_longround_k14_errors_apart
set_option Elab.async false
set_option linter.all false
set_option maxRecDepth 100000
set_option maxHeartbeats 4000000
namespace Dn
open PySem PySem.Spec PyProof.Rows L2
/-! data -/
inductive D where
  | non | bl (b : Bool) | int (i : Int) | str (x : Str) | tup (xs : List D) | lst (xs : List D) | fls (xs : List D)
  | dK (kvs : List (Key × D)) | dT (kvs : List (List Key × D)) | obj (c : Nat) (fs : List (Str × D)) | fz (d : D) | opq (o : Option Addr) | exc (n : Nat) (f : Str) (fs : List D)
/-- an exception object of the class cls, its dict (none as yet | at d) -/
def ExV (cls : Value) (d : Option Addr) (a : Addr) : HO := .ext fun h => ∃ (oe : Obj) (vs : Array Value), h.get? a = some oe ∧ Zc cls d oe ∧ oe.data = .fields vs
mutual
inductive RV (K : PySem.W.Frag) (ct : Nat → Addr) (G : Hp) : D → V → Prop where
  | non : RV K ct G .non .non
  | bl (b : Bool) : RV K ct G (.bl b) (.bl b)
  | int (i : Int) : RV K ct G (.int i) (.int i)
  | str (x : Str) : RV K ct G (.str x) (.str x)
  | tup {p : Addr} {xs : List D} {vs : List V} : G p = some (.tup vs) → RVs K ct G xs vs → RV K ct G (.tup xs) (.ref p)
  | lst {p : Addr} {xs : List D} {vs : List V} : G p = some (.lst vs) → RVs K ct G xs vs → RV K ct G (.lst xs) (.ref p)
  | fls {p : Addr} {xs : List D} {vs : List V} : SqL K G p vs → RVs K ct G xs vs → RV K ct G (.fls xs) (.ref p)
  | dK {p : Addr} {xs : List (Key × D)} {vs : List (Key × V)} : G p = some (.dK vs) → RKs K ct G xs vs → RV K ct G (.dK xs) (.ref p)
  | dT {p : Addr} {xs : List (List Key × D)} {vs : List (List Key × V)} : G p = some (.dT vs) → RTs K ct G xs vs → RV K ct G (.dT xs) (.ref p)
  | obj {p dx : Addr} {c : Nat} {xs : List (Str × D)} {vs : List (Str × V)} : G p = some (.ins (ct c) dx vs) → RFs K ct G xs vs → RV K ct G (.obj c xs) (.ref p)
  | opq {o : Option Addr} {p : Addr} (h : ∀ q, o = some q → p = q) : RV K ct G (.opq o) (.ref p)
  | exc0 {p : Addr} {n : Nat} {f : Str} : G p = some (ExV (.ref (ct n)) none p) → RV K ct G (.exc n f []) (.ref p)
  | exc1 {p dx : Addr} {n : Nat} {f : Str} {d : D} {v : V} : G p = some (ExV (.ref (ct n)) (some dx) p) → G dx = some (.xd [(f, v)]) → RV K ct G d v → RV K ct G (.exc n f [d]) (.ref p)
  | ldK {p : Addr} {od : PySem.Obj} {d : D} {xs : List (Key × D)} {vs : List (Key × V)} : d = .dK xs → G p = some (.frz od (.dK vs)) → RKs K ct G xs vs → RV K ct G (.fz d) (.ref p)
inductive RVs (K : PySem.W.Frag) (ct : Nat → Addr) (G : Hp) : List D → List V → Prop where
  | nil : RVs K ct G [] []
  | cons {x : D} {v : V} {xs : List D} {vs : List V} : RV K ct G x v → RVs K ct G xs vs → RVs K ct G (x :: xs) (v :: vs)
inductive RKs (K : PySem.W.Frag) (ct : Nat → Addr) (G : Hp) : List (Key × D) → List (Key × V) → Prop where
  | nil : RKs K ct G [] []
  | cons {k : Key} {x : D} {v : V} {xs : List (Key × D)} {vs : List (Key × V)} : RV K ct G x v → RKs K ct G xs vs → RKs K ct G ((k, x) :: xs) ((k, v) :: vs)
inductive RTs (K : PySem.W.Frag) (ct : Nat → Addr) (G : Hp) : List (List Key × D) → List (List Key × V) → Prop where
  | nil : RTs K ct G [] []
  | cons {k : List Key} {x : D} {v : V} {xs : List (List Key × D)} {vs : List (List Key × V)} : RV K ct G x v → RTs K ct G xs vs → RTs K ct G ((k, x) :: xs) ((k, v) :: vs)
inductive RFs (K : PySem.W.Frag) (ct : Nat → Addr) (G : Hp) : List (Str × D) → List (Str × V) → Prop where
  | nil : RFs K ct G [] []
  | cons {k : Str} {x : D} {v : V} {xs : List (Str × D)} {vs : List (Str × V)} : RV K ct G x v → RFs K ct G xs vs → RFs K ct G ((k, x) :: xs) ((k, v) :: vs)
end
section
variable {K : PySem.W.Frag} {ct : Nat → Addr} {G G' H H' : Hp}
theorem sql_same {p : Addr} {vs : List V} (s : Same G G') (h : SqL K G p vs) : SqL K G' p vs := Same.seq s h
mutual
theorem RV.mono (s : Same G G') : ∀ {d : D} {v : V}, RV K ct G d v → RV K ct G' d v
  | _, _, .non => .non
  | _, _, .bl b => .bl b
  | _, _, .int i => .int i
  | _, _, .str x => .str x
  | _, _, .tup h r => .tup (s _ _ h) (RVs.mono s r)
  | _, _, .lst h r => .lst (s _ _ h) (RVs.mono s r)
  | _, _, .fls h r => .fls (sql_same s h) (RVs.mono s r)
  | _, _, .dK h r => .dK (s _ _ h) (RKs.mono s r)
  | _, _, .dT h r => .dT (s _ _ h) (RTs.mono s r)
  | _, _, .obj h r => .obj (s _ _ h) (RFs.mono s r)
  | _, _, .ldK e h r => .ldK e (s _ _ h) (RKs.mono s r)
  | _, _, .opq p => .opq p
  | _, _, .exc0 h => .exc0 (s _ _ h)
  | _, _, .exc1 h h2 r => .exc1 (s _ _ h) (s _ _ h2) (RV.mono s r)
theorem RVs.mono (s : Same G G') : ∀ {ds : List D} {vs : List V}, RVs K ct G ds vs → RVs K ct G' ds vs
  | _, _, .nil => .nil
  | _, _, .cons r t => .cons (RV.mono s r) (RVs.mono s t)
theorem RKs.mono (s : Same G G') : ∀ {ds : List (Key × D)} {vs : List (Key × V)}, RKs K ct G ds vs → RKs K ct G' ds vs
  | _, _, .nil => .nil
  | _, _, .cons r t => .cons (RV.mono s r) (RKs.mono s t)
theorem RTs.mono (s : Same G G') : ∀ {ds : List (List Key × D)} {vs : List (List Key × V)}, RTs K ct G ds vs → RTs K ct G' ds vs
  | _, _, .nil => .nil
  | _, _, .cons r t => .cons (RV.mono s r) (RTs.mono s t)
theorem RFs.mono (s : Same G G') : ∀ {ds : List (Str × D)} {vs : List (Str × V)}, RFs K ct G ds vs → RFs K ct G' ds vs
  | _, _, .nil => .nil
  | _, _, .cons r t => .cons (RV.mono s r) (RFs.mono s t)
end
theorem RVs.len : ∀ {ds : List D} {vs : List V}, RVs K ct G ds vs → ds.length = vs.length
  | _, _, .nil => rfl
  | _, _, .cons _ t => by rw [List.length_cons, List.length_cons, t.len]
theorem RVs.get : ∀ {ds : List D} {vs : List V}, RVs K ct G ds vs → ∀ {i : Nat} {d : D}, ds[i]? = some d → ∃ v, vs[i]? = some v ∧ RV K ct G d v
  | _, _, .nil, i, d, h => by simp at h
  | _, _, .cons r t, 0, d, h => by simp at h; subst h; exact ⟨_, rfl, r⟩
  | _, _, .cons r t, i + 1, d, h => by simpa using t.get (i := i) (by simpa using h)
theorem RVs.getV : ∀ {ds : List D} {vs : List V}, RVs K ct G ds vs → ∀ {i : Nat} {v : V}, vs[i]? = some v → ∃ d, ds[i]? = some d ∧ RV K ct G d v
  | _, _, .nil, i, d, h => by simp at h
  | _, _, .cons r t, 0, d, h => by simp at h; subst h; exact ⟨_, rfl, r⟩
  | _, _, .cons r t, i + 1, d, h => by simpa using t.getV (i := i) (by simpa using h)
theorem RVs.append : ∀ {xs ys : List D} {vs us : List V}, RVs K ct G xs vs → RVs K ct G ys us → RVs K ct G (xs ++ ys) (vs ++ us)
  | _, _, _, _, .nil, s => s
  | _, _, _, _, .cons r t, s => .cons r (RVs.append t s)
theorem RVs.take : ∀ {xs : List D} {vs : List V} (n : Nat), RVs K ct G xs vs → RVs K ct G (xs.take n) (vs.take n)
  | _, _, 0, _ => .nil
  | _, _, _ + 1, .nil => .nil
  | _, _, n + 1, .cons r t => .cons r (RVs.take n t)
theorem RVs.drop : ∀ {xs : List D} {vs : List V} (n : Nat), RVs K ct G xs vs → RVs K ct G (xs.drop n) (vs.drop n)
  | _, _, 0, r => r
  | _, _, _ + 1, .nil => .nil
  | _, _, n + 1, .cons _ t => RVs.drop n t
theorem RVs.set {x : D} {v : V} (r : RV K ct G x v) : ∀ {xs : List D} {vs : List V} (i : Nat), RVs K ct G xs vs → RVs K ct G (xs.set i x) (vs.set i v)
  | _, _, _, .nil => .nil
  | _, _, 0, .cons _ t => .cons r t
  | _, _, i + 1, .cons q t => .cons q (RVs.set r i t)
theorem RVs.erase : ∀ {xs : List D} {vs : List V} (i : Nat), RVs K ct G xs vs → RVs K ct G (xs.eraseIdx i) (vs.eraseIdx i)
  | _, _, _, .nil => .nil
  | _, _, 0, .cons _ t => t
  | _, _, i + 1, .cons q t => .cons q (RVs.erase i t)
theorem RVs.rev {xs : List D} {vs : List V} (h : RVs K ct G xs vs) : RVs K ct G xs.reverse vs.reverse := by
  induction h using RVs.rec (motive_1 := fun _ _ _ => True) (motive_3 := fun _ _ _ => True) (motive_4 := fun _ _ _ => True) (motive_5 := fun _ _ _ => True) with
  | nil => exact .nil
  | cons r t _ ih => rw [List.reverse_cons, List.reverse_cons]; exact RVs.append ih (.cons r .nil)
  | _ => trivial
end

/-! the state -/
abbrev Env := List (Option D)
structure Cf where
  own : List Nat
  H0 : Hp
  G0 : Hp
  iop : Option Addr
  pins : List (Nat × Addr) := []
/-- the object that the def may change for its caller: its first parameter's -/
def Cf.io (c : Cf) : List Addr := c.iop.toList
def ROwn (K : PySem.W.Frag) (ct : Nat → Addr) (G H : Hp) : D → V → Prop
  | .lst xs, .ref p => ∃ vs, H p = some (.lst vs) ∧ G p = none ∧ RVs K ct G xs vs
  | .dK xs, .ref p => ∃ vs, H p = some (.dK vs) ∧ G p = none ∧ RKs K ct G xs vs
  | .dT xs, .ref p => ∃ vs, H p = some (.dT vs) ∧ G p = none ∧ RTs K ct G xs vs
  | .obj c xs, .ref p => ∃ dx vs, H p = some (.ins (ct c) dx vs) ∧ G p = none ∧ RFs K ct G xs vs
  | _, _ => False
/-- what may be read -/
def RD (K : PySem.W.Frag) (ct : Nat → Addr) (G H : Hp) (d : D) (v : V) : Prop := RV K ct G d v ∨ ROwn K ct G H d v
/-- what an own slot holds: an object of its own, or (fz) something known for good -/
def OwnV (K : PySem.W.Frag) (ct : Nat → Addr) (c : Cf) (G H : Hp) (d : D) (v : V) : Prop :=
  (ROwn K ct G H d v ∧ ∀ p, v = .ref p → c.H0 p = none ∨ p ∈ c.io) ∨ ∃ d', d = .fz d' ∧ RV K ct G d' v ∧ ∀ p, v = .ref p → ∃ o, G p = some o
structure Rel (K : PySem.W.Frag) (ct : Nat → Addr) (c : Cf) (G H : Hp) (env : Env) (σ : L2.St) : Prop where
  sub : Same G H
  up : ∀ p o, G p = some o → c.G0 p = some o ∨ c.H0 p = none
  dn : Same c.G0 G
  fr : ∀ p o, c.H0 p = some o → p ∉ c.io → H p = some o
  ioH : ∀ p, p ∈ c.io → ∃ o, H p = some o
  len : env.length = σ.length
  slot : ∀ i d, env[i]? = some (some d) → ∃ v, σ[i]? = some (some v) ∧ (i ∉ c.own → RV K ct G d v) ∧ (i ∈ c.own → OwnV K ct c G H d v)
  dis : ∀ i j p, i ∈ c.own → j ∈ c.own → σ[i]? = some (some (.ref p)) → σ[j]? = some (some (.ref p)) → G p = none → i = j
  un : ∀ i : Nat, env[i]? = some none → σ[i]? = some none
  fix : ∀ p, c.iop = some p → 0 ∈ c.own ∧ σ[0]? = some (some (.ref p)) ∧ G p = none
  pin : ∀ q, q ∈ c.pins → q.1 ∈ c.own ∧ σ[q.1]? = some (some (.ref q.2))
  tp : ∀ p vs, H p = some (.tup vs) → G p = some (.tup vs)
structure Grow (G H G' H' : Hp) : Prop where
  g : Same G G'
  h : Same H H'
  s : Same G' H'
  n : ∀ p o, G' p = some o → G p = some o ∨ H p = none
  t : ∀ p vs, H' p = some (.tup vs) → H p = some (.tup vs) ∨ G' p = some (.tup vs)
section
variable {K : PySem.W.Frag} {ct : Nat → Addr} {c : Cf} {G G' G'' H H' H'' : Hp} {env : Env} {σ : L2.St}
theorem ROwn.top {d : D} {v : V} (h : ROwn K ct G H d v) : ∃ p o, v = .ref p ∧ H p = some o ∧ G p = none := by
  unfold ROwn at h
  split at h
  · obtain ⟨vs, a, b, _⟩ := h; exact ⟨_, _, rfl, a, b⟩
  · obtain ⟨vs, a, b, _⟩ := h; exact ⟨_, _, rfl, a, b⟩
  · obtain ⟨vs, a, b, _⟩ := h; exact ⟨_, _, rfl, a, b⟩
  · obtain ⟨dx, vs, a, b, _⟩ := h; exact ⟨_, _, rfl, a, b⟩
  · exact h.elim
theorem ROwn.step {d : D} {p : Addr} (h : ROwn K ct G H d (.ref p)) (g : Same G G') (e : ∀ o, H p = some o → H' p = some o) (n : G' p = none) : ROwn K ct G' H' d (.ref p) := by
  cases d with
  | lst xs => obtain ⟨vs, a, b, r⟩ := h; exact ⟨vs, e _ a, n, r.mono g⟩
  | dK xs => obtain ⟨vs, a, b, r⟩ := h; exact ⟨vs, e _ a, n, r.mono g⟩
  | dT xs => obtain ⟨vs, a, b, r⟩ := h; exact ⟨vs, e _ a, n, r.mono g⟩
  | obj c xs => obtain ⟨dx, vs, a, b, r⟩ := h; exact ⟨dx, vs, e _ a, n, r.mono g⟩
  | _ => exact h.elim
theorem ROwn.notTup {d : D} {p : Addr} (h : ROwn K ct G H d (.ref p)) (vs : List V) : H p ≠ some (.tup vs) := fun z => by
  unfold ROwn at h
  split at h
  · rename_i e; cases e; obtain ⟨_, a, _⟩ := h; rw [z] at a; cases a
  · rename_i e; cases e; obtain ⟨_, a, _⟩ := h; rw [z] at a; cases a
  · rename_i e; cases e; obtain ⟨_, a, _⟩ := h; rw [z] at a; cases a
  · rename_i e; cases e; obtain ⟨_, _, a, _⟩ := h; rw [z] at a; cases a
  · exact h.elim
theorem OwnV.live {d : D} {v : V} (h : OwnV K ct c G H d v) (n : ∀ d', d ≠ .fz d') : ROwn K ct G H d v ∧ ∀ p, v = .ref p → c.H0 p = none ∨ p ∈ c.io := by
  rcases h with h | ⟨d', e, _⟩
  · exact h
  · exact absurd e (n d')
theorem OwnV.at {d : D} {p : Addr} (s : Same G H) (h : OwnV K ct c G H d (.ref p)) : ∃ o, H p = some o := by
  rcases h with ⟨h, _⟩ | ⟨d', _, _, h⟩
  · obtain ⟨q, o, e, h1, _⟩ := h.top; cases e; exact ⟨o, h1⟩
  · obtain ⟨o, ho⟩ := h p rfl; exact ⟨o, s _ _ ho⟩
theorem Grow.refl (s : Same G H) : Grow G H G H := ⟨.refl _, .refl _, s, fun _ _ h => .inl h, fun _ _ h => .inl h⟩
theorem Grow.trans (a : Grow G H G' H') (b : Grow G' H' G'' H'') : Grow G H G'' H'' where
  g := a.g.trans b.g
  h := a.h.trans b.h
  s := b.s
  n := fun p o e => by
    rcases b.n p o e with q | q
    · exact a.n p o q
    · exact .inr (a.h.free q)
  t := fun p vs e => by
    rcases b.t p vs e with q | q
    · rcases a.t p vs q with q | q
      · exact .inl q
      · exact .inr (b.g _ _ q)
    · exact .inr q
/-- a new object that is known for good -/
theorem Grow.new {p : Addr} {o : HO} (s : Same G H) (hp : H p = none) : Grow G H (upd G p o) (upd H p o) where
  g := fun b x e => by
    have : b ≠ p := fun z => by subst z; rw [s _ _ e] at hp; cases hp
    rw [upd_ne this]; exact e
  h := fun b x e => by rw [upd_ne (ne_of_none e hp)]; exact e
  s := fun b x e => by
    by_cases hb : b = p
    · subst hb; rw [upd_same] at e ⊢; exact e
    · rw [upd_ne hb] at e ⊢; exact s _ _ e
  n := fun b x e => by
    by_cases hb : b = p
    · subst hb; exact .inr hp
    · rw [upd_ne hb] at e; exact .inl e
  t := fun b vs e => by
    by_cases hb : b = p
    · subst hb; rw [upd_same] at e ⊢; exact .inr e
    · rw [upd_ne hb] at e; exact .inl e
/-- a new object outside -/
theorem Grow.out {p : Addr} {o : HO} (s : Same G H) (hp : H p = none) (ho : ∀ vs, o ≠ .tup vs := by intro _ z; cases z) : Grow G H G (upd H p o) where
  g := .refl _
  h := fun b x e => by rw [upd_ne (ne_of_none e hp)]; exact e
  s := fun b x e => by
    have : b ≠ p := fun z => by subst z; rw [s _ _ e] at hp; cases hp
    rw [upd_ne this]; exact s _ _ e
  n := fun b x e => .inl e
  t := fun b vs e => by
    by_cases hb : b = p
    · subst hb; rw [upd_same] at e; exact absurd (Option.some.inj e) (ho vs)
    · rw [upd_ne hb] at e; exact .inl e
theorem Rel.grow (r : Rel K ct c G H env σ) (g : Grow G H G' H') : Rel K ct c G' H' env σ where
  sub := g.s
  up := fun p o e => by
    rcases g.n p o e with q | q
    · exact r.up p o q
    · cases z : c.H0 p with
      | none => exact .inr rfl
      | some u =>
        by_cases hi : p ∈ c.io
        · obtain ⟨w, hw⟩ := r.ioH p hi; rw [hw] at q; cases q
        · rw [r.fr p u z hi] at q; cases q
  dn := r.dn.trans g.g
  fr := fun p o e hi => g.h _ _ (r.fr p o e hi)
  ioH := fun p hp => let ⟨o, h⟩ := r.ioH p hp; ⟨o, g.h _ _ h⟩
  len := r.len
  slot := fun i d e => by
    obtain ⟨v, hv, h1, h2⟩ := r.slot i d e
    refine ⟨v, hv, fun hi => (h1 hi).mono g.g, fun hi => ?_⟩
    rcases h2 hi with ⟨h3, h4⟩ | ⟨d', e', h3, h4⟩
    · obtain ⟨p, o, rfl, hp, hg⟩ := h3.top
      refine .inl ⟨h3.step g.g (fun o => g.h _ _) ?_, h4⟩
      cases z : G' p with
      | none => rfl
      | some u =>
        rcases g.n p u z with q | q
        · rw [hg] at q; cases q
        · rw [hp] at q; cases q
    · exact .inr ⟨d', e', h3.mono g.g, fun p e => let ⟨o, ho⟩ := h4 p e; ⟨o, g.g _ _ ho⟩⟩
  dis := fun i j p a b e1 e2 gp => r.dis i j p a b e1 e2 (g.g.free gp)
  un := r.un
  fix := fun p hp => by
    obtain ⟨a, b, gp⟩ := r.fix p hp
    refine ⟨a, b, ?_⟩
    cases z : G' p with
    | none => rfl
    | some u =>
      rcases g.n p u z with q | q
      · rw [gp] at q; cases q
      · obtain ⟨o, ho⟩ := r.ioH p (by unfold Cf.io; rw [hp]; simp)
        rw [ho] at q; cases q
  pin := r.pin
  tp := fun p vs h => (g.t p vs h).elim (fun h => g.g _ _ (r.tp p vs h)) id
theorem Rel.h0 (r : Rel K ct c G H env σ) {p : Addr} (hp : H p = none) : c.H0 p = none := by
  cases z : c.H0 p with
  | none => rfl
  | some u =>
    by_cases hi : p ∈ c.io
    · obtain ⟨w, hw⟩ := r.ioH p hi; rw [hw] at hp; cases hp
    · rw [r.fr p u z hi] at hp; cases hp
theorem Rel.g0 (r : Rel K ct c G H env σ) {p : Addr} (hp : H p = none) : G p = none := by
  cases z : G p with
  | none => rfl
  | some u => rw [r.sub _ _ z] at hp; cases hp
end
/-! results -/
inductive Rv where
  | val (d : D) | slot (i : Nat)
/-- an exception: its class's number, its field's value -/
structure Ex where
  c : Nat
  f : Option (Str × D)
inductive R where
  | ok (r : Rv) (env : Env) | ex (x : Ex) (env : Env) | no
inductive RB where
  | ok (b : Bool) (env : Env) | ex (x : Ex) (env : Env) | no
inductive RA where
  | ok (r : List Rv) (env : Env) | ex (x : Ex) (env : Env) | no
inductive RS where
  | nx (env : Env) | rt (r : Rv) (env : Env) | rn (d : D) (env : Env) | bk (env : Env) | ct (env : Env) | ex (x : Ex) (env : Env) | no
abbrev DE := Env → R
abbrev DT := Env → RB
abbrev DA := Env → RA
abbrev DS := Env → RS
def look (env : Env) (i : Nat) : Option D := match env[i]? with
  | some (some d) => some d
  | _ => none
theorem look_of {env : Env} {i : Nat} {d : D} (h : env[i]? = some (some d)) : look env i = some d := by unfold look; rw [h]
theorem of_look {env : Env} {i : Nat} {d : D} (h : look env i = some d) : env[i]? = some (some d) := by
  unfold look at h
  split at h
  · rename_i e; rw [e]; exact congrArg some h
  · cases h
def unfz : Option D → Option D
  | some (.fz d) => some d
  | x => x
def rd (env : Env) : Rv → Option D
  | .val d => some d
  | .slot i => unfz (look env i)
section
variable (K : PySem.W.Frag) (ct : Nat → Addr) (c : Cf) (W : WX)
def RX (G H : Hp) (σ : L2.St) : Bool → Rv → V → Prop
  | false, .val d, v => RV K ct G d v
  | false, .slot i, v => i ∈ c.own ∧ σ[i]? = some (some v)
  | true, .val d, v => ROwn K ct G H d v
  | true, .slot _, _ => False
def RE (G : Hp) (x : Ex) (cls : Value) (dd : Option Addr) : Prop := cls = .ref (ct x.c) ∧ match x.f with
  | none => dd = none
  | some (f, d) => ∃ a v, dd = some a ∧ G a = some (.xd [(f, v)]) ∧ RV K ct G d v
/-- a step of an expression -/
structure Stp (σ : L2.St) (G H G' H' : Hp) : Prop where
  g : Same G G'
  h : ∀ p o, H p = some o → (∀ i, i ∈ c.own → σ[i]? ≠ some (some (.ref p))) → H' p = some o
  n : ∀ p o, G' p = some o → G p = some o ∨ H p = none ∨ ∃ i, i ∈ c.own ∧ σ[i]? = some (some (.ref p))
def PostE (f : Bool) (G H : Hp) (σ : L2.St) (Q : VK) : R → Prop
  | .ok rv env' => ∀ G' H' v, Stp c σ G H G' H' → Rel K ct c G' H' env' σ → RX K ct c G' H' σ f rv v → (f = true → ∀ p, v = .ref p → H p = none) → Q v H'
  | .ex x env' => ∀ G' H' cls dd, Stp c σ G H G' H' → Rel K ct c G' H' env' σ → RE K ct G' x cls dd → W cls dd σ H'
  | .no => False
def PostB (G H : Hp) (σ : L2.St) (Q : Bool → Hp → Prop) : RB → Prop
  | .ok b env' => ∀ G' H', Stp c σ G H G' H' → Rel K ct c G' H' env' σ → Q b H'
  | .ex x env' => ∀ G' H' cls dd, Stp c σ G H G' H' → Rel K ct c G' H' env' σ → RE K ct G' x cls dd → W cls dd σ H'
  | .no => False
inductive RXs (G H : Hp) (σ : L2.St) : List Rv → List V → Prop
  | nil : RXs G H σ [] []
  | cons {r : Rv} {v : V} {rs : List Rv} {vs : List V} : RX K ct c G H σ false r v → RXs G H σ rs vs → RXs G H σ (r :: rs) (v :: vs)
def PostA (G H : Hp) (σ : L2.St) (Q : List V → Hp → Prop) : RA → Prop
  | .ok rvs env' => ∀ G' H' vs, Stp c σ G H G' H' → Rel K ct c G' H' env' σ → RXs K ct c G' H' σ rvs vs → Q vs H'
  | .ex x env' => ∀ G' H' cls dd, Stp c σ G H G' H' → Rel K ct c G' H' env' σ → RE K ct G' x cls dd → W cls dd σ H'
  | .no => False
def PostS (G : Hp) (E : Ends) : RS → Prop
  | .nx env' => ∀ G' H' σ', Same G G' → Rel K ct c G' H' env' σ' → E.nx σ' H'
  | .bk env' => ∀ G' H' σ', Same G G' → Rel K ct c G' H' env' σ' → E.bk σ' H'
  | .ct env' => ∀ G' H' σ', Same G G' → Rel K ct c G' H' env' σ' → E.ct σ' H'
  | .rt rv env' => ∀ G' H' σ' v, Same G G' → Rel K ct c G' H' env' σ' → RX K ct c G' H' σ' false rv v → E.rt v H'
  | .rn d env' => ∀ G' H' σ' v, Same G G' → Rel K ct c G' H' env' σ' → RX K ct c G' H' σ' true (.val d) v → (∀ p, v = .ref p → c.H0 p = none) → E.rt v H'
  | .ex x env' => ∀ G' H' σ' cls dd, Same G G' → Rel K ct c G' H' env' σ' → RE K ct G' x cls dd → W cls dd σ' H'
  | .no => False
theorem Stp.refl {c : Cf} {σ : L2.St} {G H : Hp} : Stp c σ G H G H := ⟨.refl _, fun _ _ h _ => h, fun _ _ h => .inl h⟩
theorem Stp.trans {c : Cf} {σ : L2.St} {G H G' H' G'' H'' : Hp} (a : Stp c σ G H G' H') (b : Stp c σ G' H' G'' H'') : Stp c σ G H G'' H'' := ⟨a.g.trans b.g, fun p o e h => b.h p o (a.h p o e h) h, fun p o e => by
  rcases b.n p o e with q | q | q
  · exact a.n p o q
  · by_cases ho : ∃ i, i ∈ c.own ∧ σ[i]? = some (some (.ref p))
    · exact .inr (.inr ho)
    · cases z : H p with
      | none => exact .inr (.inl rfl)
      | some u => rw [a.h p u z fun i hi hσ => ho ⟨i, hi, hσ⟩] at q; cases q
  · exact .inr (.inr q)⟩
theorem Grow.stp {c : Cf} {σ : L2.St} {G H G' H' : Hp} (g : Grow G H G' H') : Stp c σ G H G' H' := ⟨g.g, fun p o e _ => g.h p o e, fun p o e => (g.n p o e).elim .inl fun z => .inr (.inl z)⟩
def SimE (f : Bool) (t : TE) (e : DE) : Prop := ∀ G H env σ Q, Rel K ct c G H env σ → PostE K ct c W f G H σ Q (e env) → t σ H Q
def SimT (t : TT) (e : DT) : Prop := ∀ G H env σ Q, Rel K ct c G H env σ → PostB K ct c W G H σ Q (e env) → t σ H Q
def SimA (t : TA) (e : DA) : Prop := ∀ G H env σ Q, Rel K ct c G H env σ → PostA K ct c W G H σ Q (e env) → t σ H Q
def SimS (t : TS) (e : DS) : Prop := ∀ G H env σ E, Rel K ct c G H env σ → PostS K ct c W G E (e env) → t E σ H
end
end Dn

namespace Dn
open PySem PySem.Spec PyProof.Rows L2
/-! judgements: syntax and denotation -/
def JE (X : Cx) (ct : Nat → Addr) (c : Cf) (W : WX) (f : Bool) (e : Expr) (d : DE) : Prop := ∃ t, PE X e t ∧ SimE X.K ct c W f t d
def JT (X : Cx) (ct : Nat → Addr) (c : Cf) (W : WX) (e : Expr) (d : DT) : Prop := ∃ t, PT X e t ∧ SimT X.K ct c W t d
def JW (X : Cx) (ct : Nat → Addr) (c : Cf) (W : WX) (e : Expr) (d : DT) : Prop := ∃ t, PW X e t ∧ SimT X.K ct c W t d
def JA (X : Cx) (ct : Nat → Addr) (c : Cf) (W : WX) (es : List Expr) (d : DA) : Prop := ∃ t, PA X es t ∧ SimA X.K ct c W t d
section
variable {K : PySem.W.Frag} {ct : Nat → Addr} {c : Cf} {W : WX} {G G' G'' H H' H'' : Hp} {env env' : Env} {σ : L2.St}
theorem RX.mono {rv : Rv} {v : V} (h : RX K ct c G H σ false rv v) (s : Same G G') : RX K ct c G' H' σ false rv v := by
  cases rv with
  | val d => exact RV.mono s h
  | slot i => exact h
theorem RXs.mono {rvs : List Rv} {vs : List V} (h : RXs K ct c G H σ rvs vs) (s : Same G G') : RXs K ct c G' H' σ rvs vs := by
  induction h with
  | nil => exact .nil
  | cons r t ih => exact .cons (r.mono s) ih
theorem RX.rd {rv : Rv} {v : V} {d : D} (h : RX K ct c G H σ false rv v) (r : Rel K ct c G H env σ) (e : rd env rv = some d) : RD K ct G H d v := by
  cases rv with
  | val d' =>
    have : d' = d := Option.some.inj e
    subst this
    exact .inl h
  | slot i =>
    obtain ⟨ho, hv⟩ := h
    cases z : look env i with
    | none =>
      have e2 : unfz (look env i) = some d := e
      rw [z] at e2; cases e2
    | some d0 =>
      have e2 : unfz (look env i) = some d := e
      rw [z] at e2
      obtain ⟨v', hv', _, h2⟩ := r.slot i d0 (of_look z)
      rw [hv] at hv'
      cases hv'
      rcases h2 ho with ⟨h3, _⟩ | ⟨d', ed, h3, _⟩
      · have : d0 = d := by
          cases d0 with
          | fz d' => exact h3.elim
          | _ => exact Option.some.inj e2
        subst this
        exact .inr h3
      · subst ed
        have : d' = d := Option.some.inj e2
        subst this
        exact .inl h3
theorem RE.mono {x : Ex} {cls : Value} {dd : Option Addr} (h : RE K ct G x cls dd) (s : Same G G') : RE K ct G' x cls dd := by
  obtain ⟨h1, h2⟩ := h
  refine ⟨h1, ?_⟩
  cases e : x.f with
  | none => rw [e] at h2; exact h2
  | some q =>
    rw [e] at h2
    obtain ⟨a, v, h3, h4, h5⟩ := h2
    exact ⟨a, v, h3, s _ _ h4, h5.mono s⟩
/-! shapes of what is read -/
theorem RV.int_inv {i : Int} {v : V} (h : RV K ct G (.int i) v) : v = .int i := by cases h; rfl
theorem RV.bl_inv {i : Bool} {v : V} (h : RV K ct G (.bl i) v) : v = .bl i := by cases h; rfl
theorem RV.str_inv {i : Str} {v : V} (h : RV K ct G (.str i) v) : v = .str i := by cases h; rfl
theorem RV.non_inv {v : V} (h : RV K ct G .non v) : v = .non := by cases h; rfl
theorem RD.int_inv {i : Int} {v : V} (h : RD K ct G H (.int i) v) : v = .int i := h.elim RV.int_inv False.elim
theorem RD.bl_inv {i : Bool} {v : V} (h : RD K ct G H (.bl i) v) : v = .bl i := h.elim RV.bl_inv False.elim
theorem RD.str_inv {i : Str} {v : V} (h : RD K ct G H (.str i) v) : v = .str i := h.elim RV.str_inv False.elim
theorem RD.non_inv {v : V} (h : RD K ct G H .non v) : v = .non := h.elim RV.non_inv False.elim
theorem RD.lst_inv {xs : List D} {v : V} (s : Same G H) (h : RD K ct G H (.lst xs) v) : ∃ p vs, v = .ref p ∧ H p = some (.lst vs) ∧ RVs K ct G xs vs := by
  rcases h with h | h
  · cases h with | lst h r => exact ⟨_, _, rfl, s _ _ h, r⟩
  · obtain ⟨p, o, rfl, _, _⟩ := h.top
    obtain ⟨vs, a, b, r⟩ := h
    exact ⟨p, vs, rfl, a, r⟩
theorem RD.tup_inv {xs : List D} {v : V} (s : Same G H) (h : RD K ct G H (.tup xs) v) : ∃ p vs, v = .ref p ∧ H p = some (.tup vs) ∧ G p = some (.tup vs) ∧ RVs K ct G xs vs := by
  rcases h with h | h
  · cases h with | tup h r => exact ⟨_, _, rfl, s _ _ h, h, r⟩
  · exact h.elim
theorem RD.fls_inv {xs : List D} {v : V} (s : Same G H) (h : RD K ct G H (.fls xs) v) : ∃ p vs, v = .ref p ∧ SqL K H p vs ∧ SqL K G p vs ∧ RVs K ct G xs vs := by
  rcases h with h | h
  · cases h with | fls h r => exact ⟨_, _, rfl, sql_same s h, h, r⟩
  · exact h.elim
theorem RD.dK_inv {xs : List (Key × D)} {v : V} (s : Same G H) (h : RD K ct G H (.dK xs) v) : ∃ p vs, v = .ref p ∧ H p = some (.dK vs) ∧ RKs K ct G xs vs := by
  rcases h with h | h
  · cases h with | dK h r => exact ⟨_, _, rfl, s _ _ h, r⟩
  · obtain ⟨p, o, rfl, _, _⟩ := h.top
    obtain ⟨vs, a, b, r⟩ := h
    exact ⟨p, vs, rfl, a, r⟩
theorem RD.dT_inv {xs : List (List Key × D)} {v : V} (s : Same G H) (h : RD K ct G H (.dT xs) v) : ∃ p vs, v = .ref p ∧ H p = some (.dT vs) ∧ RTs K ct G xs vs := by
  rcases h with h | h
  · cases h with | dT h r => exact ⟨_, _, rfl, s _ _ h, r⟩
  · obtain ⟨p, o, rfl, _, _⟩ := h.top
    obtain ⟨vs, a, b, r⟩ := h
    exact ⟨p, vs, rfl, a, r⟩
theorem RVs.ints : ∀ {xs : List Int} {vs : List V}, RVs K ct G (xs.map D.int) vs → vs = xs.map V.int
  | [], _, .nil => rfl
  | x :: xs, _, .cons r t => by rw [r.int_inv, RVs.ints t]; rfl
theorem RVs.ofInts : ∀ {xs : List Int}, RVs K ct G (xs.map D.int) (xs.map V.int)
  | [] => .nil
  | x :: xs => .cons (.int x) RVs.ofInts
theorem RVs.bls : ∀ {xs : List Bool} {vs : List V}, RVs K ct G (xs.map D.bl) vs → vs = xs.map V.bl
  | [], _, .nil => rfl
  | x :: xs, _, .cons r t => by rw [r.bl_inv, RVs.bls t]; rfl
/-! what an operation on values leaves -/
def Out (K : PySem.W.Frag) (ct : Nat → Addr) (f : Bool) (G H : Hp) (d : D) (Q : VK) : Prop :=
  ∀ G' H' v, Grow G H G' H' → (match f with | true => ROwn K ct G' H' d v ∧ (∀ p, v = .ref p → H p = none) | false => RV K ct G' d v) → Q v H'
theorem Out.val {d : D} {v : V} {Q : VK} (o : Out K ct false G H d Q) (s : Same G H) (r : RV K ct G d v) : Q v H := o G H v (.refl s) r
theorem Out.newL {xs : List D} {vs : List V} {p : Addr} {Q : VK} (o : Out K ct true G H (.lst xs) Q) (s : Same G H) (hp : H p = none) (r : RVs K ct G xs vs) : Q (.ref p) (upd H p (.lst vs)) := by
  have gp : G p = none := s.free hp
  exact o G _ _ (.out s hp) ⟨⟨vs, upd_same, gp, r⟩, fun q e => by cases e; exact hp⟩
theorem Out.newD {xs : List (Key × D)} {vs : List (Key × V)} {p : Addr} {Q : VK} (o : Out K ct true G H (.dK xs) Q) (s : Same G H) (hp : H p = none) (r : RKs K ct G xs vs) : Q (.ref p) (upd H p (.dK vs)) := by
  have gp : G p = none := s.free hp
  exact o G _ _ (.out s hp) ⟨⟨vs, upd_same, gp, r⟩, fun q e => by cases e; exact hp⟩
theorem Out.newT {xs : List D} {vs : List V} {p : Addr} {Q : VK} (o : Out K ct false G H (.tup xs) Q) (s : Same G H) (hp : H p = none) (r : RVs K ct G xs vs) : Q (.ref p) (upd H p (.tup vs)) := by
  have g := Grow.new (o := .tup vs) s hp
  exact o _ _ _ g (.tup upd_same (r.mono g.g))
/-- known for good from here on -/
theorem own_frz {d : D} {p : Addr} {o : HO} (h : ROwn K ct G H d (.ref p)) (ho : H p = some o) : RV K ct (upd G p o) d (.ref p) := by
  have gp : G p = none := by obtain ⟨q, _, e, _, z⟩ := h.top; cases e; exact z
  have sm : Same G (upd G p o) := fun b x e => by rw [upd_ne (ne_of_none e gp)]; exact e
  cases d with
  | lst xs => obtain ⟨vs, a, b, r⟩ := h; rw [a] at ho; cases ho; exact .lst upd_same (r.mono sm)
  | dK xs => obtain ⟨vs, a, b, r⟩ := h; rw [a] at ho; cases ho; exact .dK upd_same (r.mono sm)
  | dT xs => obtain ⟨vs, a, b, r⟩ := h; rw [a] at ho; cases ho; exact .dT upd_same (r.mono sm)
  | obj c xs => obtain ⟨dx, vs, a, b, r⟩ := h; rw [a] at ho; cases ho; exact .obj upd_same (r.mono sm)
  | _ => exact h.elim
theorem Grow.frz {p : Addr} {o : HO} (g : Grow G H G' H') (hp : H p = none) (ho : H' p = some o) (hg : G' p = none) : Grow G H (upd G' p o) H' where
  g := fun b x e => by
    have : b ≠ p := fun z => by subst z; rw [g.g _ _ e] at hg; cases hg
    rw [upd_ne this]; exact g.g _ _ e
  h := g.h
  s := fun b x e => by
    by_cases hb : b = p
    · subst hb; rw [upd_same] at e; cases e; exact ho
    · rw [upd_ne hb] at e; exact g.s _ _ e
  n := fun b x e => by
    by_cases hb : b = p
    · subst hb; exact .inr hp
    · rw [upd_ne hb] at e; exact g.n _ _ e
  t := fun b vs e => by
    rcases g.t b vs e with q | q
    · exact .inl q
    · have : b ≠ p := fun z => by subst z; rw [q] at hg; cases hg
      exact .inr (by rw [upd_ne this]; exact q)
theorem Out.frz {d : D} {Q : VK} (o : Out K ct false G H d Q) : Out K ct true G H d Q := fun G' H' v g ⟨h1, h2⟩ => by
  obtain ⟨p, ob, rfl, hp, hg⟩ := h1.top
  exact o _ _ _ (g.frz (h2 p rfl) hp hg) (own_frz h1 hp)
theorem Rel.set_of {i : Nat} {v : V} (r : Rel K ct c G H env σ) (h : σ[i]? = some (some v)) : ∃ d, env[i]? = some (some d) := by
  cases e : env[i]? with
  | none =>
    have l := r.len
    have h1 := List.getElem?_eq_none_iff.mp e
    have h2 : σ[i]? = none := List.getElem?_eq_none_iff.mpr (by omega)
    rw [h2] at h; cases h
  | some q => cases q with
    | none => rw [r.un i e] at h; cases h
    | some d => exact ⟨d, rfl⟩
theorem Rel.own_ref {i : Nat} {p : Addr} (r : Rel K ct c G H env σ) (hi : i ∈ c.own) (h : σ[i]? = some (some (.ref p))) : ∃ o, H p = some o := by
  obtain ⟨d, hd⟩ := r.set_of h
  obtain ⟨v', hv', _, q⟩ := r.slot i d hd
  rw [h] at hv'
  cases hv'
  exact (q hi).at r.sub
theorem Rel.back {G0 H0 : Hp} {env0 : Env} (r0 : Rel K ct c G0 H0 env0 σ) (s : Stp c σ G0 H0 G H) (r : Rel K ct c G H env σ) {p : Addr} (hp : H p = none) : H0 p = none := by
  cases z : H0 p with
  | none => rfl
  | some o =>
    by_cases ho : ∃ i, i ∈ c.own ∧ σ[i]? = some (some (.ref p))
    · obtain ⟨i, hi, hσ⟩ := ho
      obtain ⟨ob, hq⟩ := r.own_ref hi hσ
      rw [hq] at hp; cases hp
    · rw [s.h p o z fun i hi q => ho ⟨i, hi, q⟩] at hp; cases hp
/-- .. behind the relation -/
theorem Out.post {d : D} {f : Bool} {Q : VK} {G0 H0 : Hp} (r : Rel K ct c G H env σ) (s : Stp c σ G0 H0 G H) (h : PostE K ct c W f G0 H0 σ Q (.ok (.val d) env)) : Out K ct f G H d Q := fun G' H' v g hv => by
  have back : ∀ p, H p = none → H0 p = none := fun p hp => by
    cases z : H0 p with
    | none => rfl
    | some o =>
      by_cases ho : ∃ i, i ∈ c.own ∧ σ[i]? = some (some (.ref p))
      · obtain ⟨i, hi, hσ⟩ := ho
        obtain ⟨ob, hq⟩ := r.own_ref hi hσ
        rw [hq] at hp; cases hp
      · rw [s.h p o z fun i hi q => ho ⟨i, hi, q⟩] at hp; cases hp
  cases f with
  | false => exact h G' H' v (s.trans g.stp) (r.grow g) hv (fun z => nomatch z)
  | true =>
    obtain ⟨h1, h2⟩ := hv
    exact h G' H' v (s.trans g.stp) (r.grow g) h1 (fun _ p e => back p (h2 p e))
def RDs (K : PySem.W.Frag) (ct : Nat → Addr) (G H : Hp) : List D → List V → Prop
  | [], [] => True
  | d :: ds, v :: vs => RD K ct G H d v ∧ RDs K ct G H ds vs
  | _, _ => False
def rds (env : Env) : List Rv → Option (List D)
  | [] => some []
  | r :: rs => match rd env r, rds env rs with
    | some d, some ds => some (d :: ds)
    | _, _ => none
theorem RXs.rds {rvs : List Rv} {vs : List V} (h : RXs K ct c G H σ rvs vs) (r : Rel K ct c G H env σ) : ∀ {ds : List D}, rds env rvs = some ds → RDs K ct G H ds vs := by
  induction h with
  | nil => intro ds e; cases e; trivial
  | @cons rv v rs vs hr ht ih =>
    intro ds e
    unfold Dn.rds at e
    split at e
    · rename_i d ds' e1 e2
      cases e
      exact ⟨hr.rd r e1, ih e2⟩
    · cases e
end
/-! combinators -/
def dVar (i : Nat) : DE := fun env => match look env i with | some d => .ok (.val d) env | none => .no
def dOwn (i : Nat) : DE := fun env => match look env i with | some (.fz d) => .ok (.val d) env | some _ => .ok (.slot i) env | none => .no
def dC (d : D) : DE := fun env => .ok (.val d) env
def dOp (g : D → D → Option D) (a b : DE) : DE := fun env => match a env with
  | .ok x e1 => match b e1 with
    | .ok y e2 => match rd e2 x, rd e2 y with
      | some dx, some dy => match g dx dy with | some d => .ok (.val d) e2 | none => .no
      | _, _ => .no
    | .ex q e2 => .ex q e2
    | .no => .no
  | .ex q e1 => .ex q e1
  | .no => .no
def dUn (g : D → Option D) (a : DE) : DE := fun env => match a env with
  | .ok x e1 => match rd e1 x with
    | some dx => match g dx with | some d => .ok (.val d) e1 | none => .no
    | none => .no
  | .ex q e1 => .ex q e1
  | .no => .no
def dTest (a : DE) : DT := fun env => match a env with
  | .ok x e1 => match rd e1 x with | some (.bl b) => .ok b e1 | _ => .no
  | .ex q e1 => .ex q e1
  | .no => .no
def dAnd (a b : DT) : DT := fun env => match a env with
  | .ok true e1 => b e1
  | .ok false e1 => .ok false e1
  | .ex q e1 => .ex q e1
  | .no => .no
def dOr (a b : DT) : DT := fun env => match a env with
  | .ok true e1 => .ok true e1
  | .ok false e1 => b e1
  | .ex q e1 => .ex q e1
  | .no => .no
def dNot (a : DT) : DT := fun env => match a env with
  | .ok b e1 => .ok (!b) e1
  | .ex q e1 => .ex q e1
  | .no => .no
def dAndV (a b : DE) : DE := fun env => match a env with
  | .ok x e1 => match rd e1 x with | some (.bl true) => b e1 | some (.bl false) => .ok (.val (.bl false)) e1 | _ => .no
  | .ex q e1 => .ex q e1
  | .no => .no
def dOrV (a b : DE) : DE := fun env => match a env with
  | .ok x e1 => match rd e1 x with | some (.bl true) => .ok (.val (.bl true)) e1 | some (.bl false) => b e1 | _ => .no
  | .ex q e1 => .ex q e1
  | .no => .no
def dIf (t : DT) (a b : DE) : DE := fun env => match t env with
  | .ok true e1 => a e1
  | .ok false e1 => b e1
  | .ex q e1 => .ex q e1
  | .no => .no
def aNil : DA := fun env => .ok [] env
def aCons (a : DE) (r : DA) : DA := fun env => match a env with
  | .ok x e1 => match r e1 with
    | .ok xs e2 => .ok (x :: xs) e2
    | .ex q e2 => .ex q e2
    | .no => .no
  | .ex q e1 => .ex q e1
  | .no => .no
/-- a function of values (a built-in's call, a display) -/
def dFn (g : List D → Option D) (a : DA) : DE := fun env => match a env with
  | .ok xs e1 => match rds e1 xs with
    | some ds => match g ds with | some d => .ok (.val d) e1 | none => .no
    | none => .no
  | .ex q e1 => .ex q e1
  | .no => .no
/-- values that are no slots -/
def clean : List Rv → Option (List D)
  | [] => some []
  | .val d :: r => (clean r).map (d :: ·)
  | .slot _ :: _ => none
def dDisp (g : List D → D) (a : DA) : DE := fun env => match a env with
  | .ok xs e1 => match clean xs with
    | some ds => if ds.length ≤ 1000000 then .ok (.val (g ds)) e1 else .no
    | none => .no
  | .ex q e1 => .ex q e1
  | .no => .no
/-- a, b < .. chains -/
def dChain (g g' : D → D → Option D) (a b e : DE) : DE := fun env => match a env with
  | .ok x e1 => match b e1 with
    | .ok y e2 => match rd e2 x, rd e2 y with
      | some dx, some dy => match g dx dy with
        | some (.bl true) => match e e2 with
          | .ok z e3 => match rd e3 y, rd e3 z with
            | some dy', some dz => match g' dy' dz with | some (.bl k) => .ok (.val (.bl k)) e3 | _ => .no
            | _, _ => .no
          | .ex q e3 => .ex q e3
          | .no => .no
        | some (.bl false) => .ok (.val (.bl false)) e2
        | _ => .no
      | _, _ => .no
    | .ex q e2 => .ex q e2
    | .no => .no
  | .ex q e1 => .ex q e1
  | .no => .no
section
variable {X : Cx} {ct : Nat → Addr} {c : Cf} {W : WX} {f : Bool}
def OpS (K : PySem.W.Frag) (ct : Nat → Addr) (f : Bool) (r : R2) (g : D → D → Option D) : Prop := ∀ G H dx dy x y d Q, Same G H → RD K ct G H dx x → RD K ct G H dy y → g dx dy = some d → Out K ct f G H d Q → r x y H Q
def UnS (K : PySem.W.Frag) (ct : Nat → Addr) (f : Bool) (r : V → Hp → VK → Prop) (g : D → Option D) : Prop := ∀ G H dx x d Q, Same G H → RD K ct G H dx x → g dx = some d → Out K ct f G H d Q → r x H Q
def FnS (K : PySem.W.Frag) (ct : Nat → Addr) (f : Bool) (r : List V → Hp → VK → Prop) (g : List D → Option D) : Prop := ∀ G H ds vs d Q, Same G H → RDs K ct G H ds vs → g ds = some d → Out K ct f G H d Q → r vs H Q
theorem SimE.v {K : PySem.W.Frag} {t : TE} {e : DE} (h : SimE K ct c W true t e) : SimE K ct c W false t e := fun G H env σ Q r p => by
  refine h G H env σ Q r ?_
  cases z : e env with
  | no => rw [z] at p; exact p
  | ex x env' => rw [z] at p; exact p
  | ok rv env' =>
    rw [z] at p
    intro G' H' v s R hx hnew
    cases rv with
    | slot i => exact hx.elim
    | val d =>
      have h1 : ROwn K ct G' H' d v := hx
      obtain ⟨q, ob, rfl, hp, hg⟩ := h1.top
      have hq : H q = none := hnew rfl q rfl
      have sm : Same G' (upd G' q ob) := fun b x e => by rw [upd_ne (ne_of_none e hg)]; exact e
      refine p (upd G' q ob) H' _ ⟨s.g.trans sm, s.h, fun b x e => ?_⟩ ?_ (own_frz h1 hp) (fun z => nomatch z)
      · by_cases hb : b = q
        · subst hb; exact .inr (.inl hq)
        · rw [upd_ne hb] at e; exact s.n b x e
      refine ⟨fun b x e => ?_, fun b x e => ?_, R.dn.trans sm, R.fr, R.ioH, R.len, fun i d' e => ?_, fun i j p a b e1 e2 gp => R.dis i j p a b e1 e2 (sm.free gp), R.un, fun p hp => ?_, R.pin, fun b vs e => sm _ _ (R.tp b vs e)⟩
      · by_cases hb : b = q
        · subst hb; rw [upd_same] at e; cases e; exact hp
        · rw [upd_ne hb] at e; exact R.sub _ _ e
      · by_cases hb : b = q
        · subst hb; exact .inr (r.h0 hq)
        · rw [upd_ne hb] at e; exact R.up _ _ e
      · obtain ⟨v, hv, a1, a2⟩ := R.slot i d' e
        refine ⟨v, hv, fun hi => (a1 hi).mono sm, fun hi => ?_⟩
        rcases a2 hi with ⟨b1, b2⟩ | ⟨d2, e2, b1, b2⟩
        · obtain ⟨p', o', rfl, hp', hg'⟩ := b1.top
          have ne : p' ≠ q := fun z => by
            subst z
            obtain ⟨_, hz⟩ := r.own_ref hi hv
            rw [hq] at hz; cases hz
          refine .inl ⟨b1.step sm (fun _ z => z) ?_, b2⟩
          rw [upd_ne ne]; exact hg'
        · exact .inr ⟨d2, e2, b1.mono sm, fun p e => let ⟨o, ho⟩ := b2 p e; ⟨o, sm _ _ ho⟩⟩
      · obtain ⟨x1, x2, x3⟩ := R.fix p hp
        refine ⟨x1, x2, ?_⟩
        rw [upd_ne (fun z => ?_)]
        · exact x3
        · subst z
          obtain ⟨_, hz⟩ := r.own_ref x1 x2
          rw [hq] at hz; cases hz
theorem JE.v {e : Expr} {d : DE} (h : JE X ct c W true e d) : JE X ct c W false e d := let ⟨t, a, b⟩ := h; ⟨t, a, b.v⟩
theorem sim_var {K : PySem.W.Frag} {i : Nat} (hi : i ∉ c.own) : SimE K ct c W false (tVar i) (dVar i) := fun G H env σ Q r p => by
  unfold dVar at p
  cases e : look env i with
  | none => rw [e] at p; exact p.elim
  | some d =>
    rw [e] at p
    obtain ⟨v, hv, h1, _⟩ := r.slot i d (of_look e)
    exact ⟨v, hv, p G H v .refl r (h1 hi) (fun z => nomatch z)⟩
theorem je_var (i : Nat) {x : Str} {pos : Pos} (hi : decide (i ∈ c.own) = false) (hN : X.N[i]? = some x := by rfl) (hv : Vis X.env.scope x := by first | exact Or.inl rfl | exact Or.inr (Or.inl rfl) | exact Or.inr (Or.inr rfl)) (hd : (x == ("__debug__" : Str)) = false := by decide)
    (hcd : (x == ("__classdict__" : Str)) = false := by decide) : JE X ct c W false (.Name x pos) (dVar i) := ⟨_, pe_var hN hv hd hcd, sim_var (of_decide_eq_false hi)⟩
theorem je_own (i : Nat) {x : Str} {pos : Pos} (hi : decide (i ∈ c.own) = true) (hN : X.N[i]? = some x := by rfl) (hv : Vis X.env.scope x := by first | exact Or.inl rfl | exact Or.inr (Or.inl rfl) | exact Or.inr (Or.inr rfl)) (hd : (x == ("__debug__" : Str)) = false := by decide)
    (hcd : (x == ("__classdict__" : Str)) = false := by decide) : JE X ct c W false (.Name x pos) (dOwn i) := ⟨_, pe_var hN hv hd hcd, fun G H env σ Q r p => by
  unfold dOwn at p
  cases e : look env i with
  | none => rw [e] at p; exact p.elim
  | some d =>
    rw [e] at p
    obtain ⟨v, hv, h1, h2⟩ := r.slot i d (of_look e)
    have live : PostE X.K ct c W false G H σ Q (.ok (.slot i) env) → tVar i σ H Q := fun p => ⟨v, hv, p G H v .refl r ⟨of_decide_eq_true hi, hv⟩ (fun z => nomatch z)⟩
    cases d with
    | fz d' =>
      rcases h2 (of_decide_eq_true hi) with ⟨h3, _⟩ | ⟨d2, e2, h3, _⟩
      · exact h3.elim
      · cases e2
        exact ⟨v, hv, p G H v .refl r h3 (fun z => nomatch z)⟩
    | _ => exact live p⟩
theorem sim_c {K : PySem.W.Frag} {d : D} {v : V} (h : ∀ G, RV K ct G d v) : SimE K ct c W false (tC v) (dC d) := fun G H env σ Q r p => p G H v .refl r (h G) (fun z => nomatch z)
theorem je_int {i j pos} : JE X ct c W false (.Constant (.int i) j pos) (dC (.int i)) := ⟨_, pe_int, sim_c fun _ => .int i⟩
theorem je_bl {b j pos} : JE X ct c W false (.Constant (.bool b) j pos) (dC (.bl b)) := ⟨_, pe_bl, sim_c fun _ => .bl b⟩
theorem je_non {j pos} : JE X ct c W false (.Constant .none j pos) (dC .non) := ⟨_, pe_non, sim_c fun _ => .non⟩
theorem je_str {x j pos} : JE X ct c W false (.Constant (.str x) j pos) (dC (.str x)) := ⟨_, pe_str, sim_c fun _ => .str x⟩
theorem je_gint {x : Str} {i : Int} {u : Tok} {pos : Pos} (hg : Gl X x) (hm : X.mg x = some (.int i u)) (hd : (x == ("__debug__" : Str)) = false := by decide) : JE X ct c W false (.Name x pos) (dC (.int i)) :=
  ⟨_, pe_glob (v := .int i) hg hm ⟨u, rfl⟩ hd, sim_c fun _ => .int i⟩
theorem je_gstr {x : Str} {i : Str} {u : Tok} {pos : Pos} (hg : Gl X x) (hm : X.mg x = some (.str i u)) (hd : (x == ("__debug__" : Str)) = false := by decide) : JE X ct c W false (.Name x pos) (dC (.str i)) :=
  ⟨_, pe_glob (v := .str i) hg hm ⟨u, rfl⟩ hd, sim_c fun _ => .str i⟩
theorem sim_op {K : PySem.W.Frag} {r : R2} {g : D → D → Option D} {ta tb : TE} {a b : DE} (hs : OpS K ct f r g) (ha : SimE K ct c W false ta a) (hb : SimE K ct c W false tb b) : SimE K ct c W f (tOp r ta tb) (dOp g a b) := fun G H env σ Q rel p => by
  refine ha G H env σ _ rel ?_
  unfold dOp at p
  cases ea : a env with
  | no => rw [ea] at p; exact p
  | ex q e1 => rw [ea] at p; exact p
  | ok x e1 =>
    rw [ea] at p
    intro G1 H1 v1 s1 R1 X1 _
    refine hb G1 H1 e1 σ _ R1 ?_
    dsimp only at p
    cases eb : b e1 with
    | no => rw [eb] at p; exact p
    | ex q e2 => rw [eb] at p; exact fun G' H' cls dd s R e => p G' H' cls dd (s1.trans s) R e
    | ok y e2 =>
      rw [eb] at p
      intro G2 H2 v2 s2 R2 X2 _
      dsimp only at p
      cases z1 : rd e2 x with
      | none => rw [z1] at p; exact p.elim
      | some dx =>
        cases z2 : rd e2 y with
        | none => rw [z1, z2] at p; exact p.elim
        | some dy =>
          rw [z1, z2] at p
          dsimp only at p
          cases z3 : g dx dy with
          | none => rw [z3] at p; exact p.elim
          | some d =>
            rw [z3] at p
            exact hs G2 H2 dx dy v1 v2 d Q R2.sub ((X1.mono (H' := H2) s2.g).rd R2 z1) (X2.rd R2 z2) z3 (Out.post R2 (s1.trans s2) p)
theorem je_op {op : Operator} {r : R2} {g : D → D → Option D} {a b : Expr} {da db : DE} {pos : Pos} (ho : OpR X (binaryOp op) r) (hs : OpS X.K ct f r g) (ha : JE X ct c W false a da) (hb : JE X ct c W false b db) : JE X ct c W f (.BinOp a op b pos) (dOp g da db) :=
  let ⟨ta, pa, sa⟩ := ha; let ⟨tb, pb, sb⟩ := hb; ⟨_, pe_op ho pa pb, sim_op hs sa sb⟩
theorem je_cmp {op : CmpOp} {r : R2} {g : D → D → Option D} {a b : Expr} {da db : DE} {pos : Pos} (ho : OpR X (compareOp op) r) (hs : OpS X.K ct false r g) (hm : behindInMarks op b = false) (ha : JE X ct c W false a da) (hb : JE X ct c W false b db) : JE X ct c W false (.Compare a [op] [b] pos) (dOp g da db) :=
  let ⟨ta, pa, sa⟩ := ha; let ⟨tb, pb, sb⟩ := hb; ⟨_, pe_cmpR ho pa pb hm, sim_op hs sa sb⟩
theorem sim_un {K : PySem.W.Frag} {r : V → Hp → VK → Prop} {g : D → Option D} {ta : TE} {a : DE} (hs : UnS K ct f r g) (ha : SimE K ct c W false ta a) : SimE K ct c W f (tUn r ta) (dUn g a) := fun G H env σ Q rel p => by
  refine ha G H env σ _ rel ?_
  unfold dUn at p
  cases ea : a env with
  | no => rw [ea] at p; exact p
  | ex q e1 => rw [ea] at p; exact p
  | ok x e1 =>
    rw [ea] at p
    intro G1 H1 v1 s1 R1 X1 _
    dsimp only at p
    cases z1 : rd e1 x with
    | none => rw [z1] at p; exact p.elim
    | some dx =>
      rw [z1] at p
      dsimp only at p
      cases z3 : g dx with
      | none => rw [z3] at p; exact p.elim
      | some d =>
        rw [z3] at p
        exact hs G1 H1 dx v1 d Q R1.sub (X1.rd R1 z1) z3 (Out.post R1 s1 p)
theorem je_un {op : UnaryOp} {r : V → Hp → VK → Prop} {g : D → Option D} {a : Expr} {da : DE} {pos : Pos} (ho : UnR X (unaryOp op) r) (hs : UnS X.K ct f r g) (ha : JE X ct c W false a da) : JE X ct c W f (.UnaryOp op a pos) (dUn g da) :=
  let ⟨ta, pa, sa⟩ := ha; ⟨_, pe_un ho pa, sim_un hs sa⟩
/-! tests -/
theorem sim_test {K : PySem.W.Frag} {ta : TE} {a : DE} (ha : SimE K ct c W false ta a) : SimT K ct c W (tTest ta) (dTest a) := fun G H env σ Q rel p => by
  refine ha G H env σ _ rel ?_
  unfold dTest at p
  cases ea : a env with
  | no => rw [ea] at p; exact p
  | ex q e1 => rw [ea] at p; exact p
  | ok x e1 =>
    rw [ea] at p
    intro G1 H1 v1 s1 R1 X1 _
    dsimp only at p
    cases z1 : rd e1 x with
    | none => rw [z1] at p; exact p.elim
    | some dx =>
      rw [z1] at p
      cases dx with
      | bl b => exact ⟨b, (X1.rd R1 z1).bl_inv, p G1 H1 s1 R1⟩
      | _ => exact p.elim
theorem jt_val {a : Expr} {da : DE} (ha : JE X ct c W false a da) (he : ∀ whole, isTrue a X.env whole = (do let v ← whole; standAt a.pos; holding [v] (truthy v)) := by intro _; rfl) : JT X ct c W a (dTest da) :=
  let ⟨ta, pa, sa⟩ := ha; ⟨_, pt_val pa he, sim_test sa⟩
theorem jt_cmp {op : CmpOp} {r : R2} {g : D → D → Option D} {a b : Expr} {da db : DE} {pos : Pos} (ho : OpR X (compareOp op) r) (hs : OpS X.K ct false r g) (hm : behindInMarks op b = false) (ha : JE X ct c W false a da) (hb : JE X ct c W false b db) : JT X ct c W (.Compare a [op] [b] pos) (dTest (dOp g da db)) :=
  let ⟨ta, pa, sa⟩ := ha; let ⟨tb, pb, sb⟩ := hb; ⟨_, pt_cmpR ho pa pb hm, sim_test (sim_op hs sa sb)⟩
theorem sim_and {K : PySem.W.Frag} {t u : TT} {a b : DT} (ha : SimT K ct c W t a) (hb : SimT K ct c W u b) : SimT K ct c W (tAnd t u) (dAnd a b) := fun G H env σ Q rel p => by
  refine ha G H env σ _ rel ?_
  unfold dAnd at p
  cases ea : a env with
  | no => rw [ea] at p; exact p
  | ex q e1 => rw [ea] at p; exact p
  | ok x e1 =>
    rw [ea] at p
    intro G1 H1 s1 R1
    cases x with
    | false => exact iteF (p G1 H1 s1 R1)
    | true =>
      refine iteT (hb G1 H1 e1 σ _ R1 ?_)
      dsimp only at p
      cases eb : b e1 with
      | no => rw [eb] at p; exact p
      | ex q e2 => rw [eb] at p; exact fun G' H' cls dd s R e => p G' H' cls dd (s1.trans s) R e
      | ok y e2 => rw [eb] at p; exact fun G' H' s R => p G' H' (s1.trans s) R
theorem sim_or {K : PySem.W.Frag} {t u : TT} {a b : DT} (ha : SimT K ct c W t a) (hb : SimT K ct c W u b) : SimT K ct c W (tOr t u) (dOr a b) := fun G H env σ Q rel p => by
  refine ha G H env σ _ rel ?_
  unfold dOr at p
  cases ea : a env with
  | no => rw [ea] at p; exact p
  | ex q e1 => rw [ea] at p; exact p
  | ok x e1 =>
    rw [ea] at p
    intro G1 H1 s1 R1
    cases x with
    | true => exact iteT (p G1 H1 s1 R1)
    | false =>
      refine iteF (hb G1 H1 e1 σ _ R1 ?_)
      dsimp only at p
      cases eb : b e1 with
      | no => rw [eb] at p; exact p
      | ex q e2 => rw [eb] at p; exact fun G' H' cls dd s R e => p G' H' cls dd (s1.trans s) R e
      | ok y e2 => rw [eb] at p; exact fun G' H' s R => p G' H' (s1.trans s) R
theorem sim_not {K : PySem.W.Frag} {t : TT} {a : DT} (ha : SimT K ct c W t a) : SimT K ct c W (tNot t) (dNot a) := fun G H env σ Q rel p => by
  refine ha G H env σ _ rel ?_
  unfold dNot at p
  cases ea : a env with
  | no => rw [ea] at p; exact p
  | ex q e1 => rw [ea] at p; exact p
  | ok x e1 => rw [ea] at p; exact p
theorem jw_and1 {a : Expr} {da : DT} {pos : Pos} (ha : JT X ct c W a da) : JW X ct c W (.BoolOp .And [a] pos) da := let ⟨t, p, s⟩ := ha; ⟨_, pw_and1 p, s⟩
theorem jw_or1 {a : Expr} {da : DT} {pos : Pos} (ha : JT X ct c W a da) : JW X ct c W (.BoolOp .Or [a] pos) da := let ⟨t, p, s⟩ := ha; ⟨_, pw_or1 p, s⟩
theorem jw_and {a b : Expr} {rest : List Expr} {da db : DT} {pos : Pos} (ha : JT X ct c W a da) (hb : JW X ct c W (.BoolOp .And (b :: rest) pos) db) : JW X ct c W (.BoolOp .And (a :: b :: rest) pos) (dAnd da db) :=
  let ⟨t, p, s⟩ := ha; let ⟨u, q, r⟩ := hb; ⟨_, pw_and p q, sim_and s r⟩
theorem jw_or {a b : Expr} {rest : List Expr} {da db : DT} {pos : Pos} (ha : JT X ct c W a da) (hb : JW X ct c W (.BoolOp .Or (b :: rest) pos) db) : JW X ct c W (.BoolOp .Or (a :: b :: rest) pos) (dOr da db) :=
  let ⟨t, p, s⟩ := ha; let ⟨u, q, r⟩ := hb; ⟨_, pw_or p q, sim_or s r⟩
theorem jt_w {e : Expr} {d : DT} (h : JW X ct c W e d) : JT X ct c W e d := let ⟨t, p, s⟩ := h; ⟨_, p.pt, s⟩
theorem jt_not {a : Expr} {da : DT} {pos : Pos} (ha : JT X ct c W a da) : JT X ct c W (.UnaryOp .Not a pos) (dNot da) := let ⟨t, p, s⟩ := ha; ⟨_, pt_not p, sim_not s⟩
/-! and, or, not as values -/
theorem je_one {a : Expr} {op} {da : DE} {pos : Pos} (ha : JE X ct c W false a da) : JE X ct c W false (.BoolOp op [a] pos) da := let ⟨t, p, s⟩ := ha; ⟨_, pe_one p, s⟩
theorem je_and {a b : Expr} {rest : List Expr} {da db : DE} {pos : Pos} (ha : JE X ct c W false a da) (hb : JE X ct c W false (.BoolOp .And (b :: rest) pos) db) : JE X ct c W false (.BoolOp .And (a :: b :: rest) pos) (dAndV da db) := by
  obtain ⟨ta, pa, sa⟩ := ha
  obtain ⟨tb, pb, sb⟩ := hb
  refine ⟨_, pe_and pa pb, fun G H env σ Q rel p => ?_⟩
  refine sa G H env σ _ rel ?_
  unfold dAndV at p
  cases ea : da env with
  | no => rw [ea] at p; exact p
  | ex q e1 => rw [ea] at p; exact p
  | ok x e1 =>
    rw [ea] at p
    intro G1 H1 v1 s1 R1 X1 _
    dsimp only at p
    cases z1 : rd e1 x with
    | none => rw [z1] at p; exact p.elim
    | some dx =>
      rw [z1] at p
      cases dx with
      | bl k =>
        refine ⟨k, (X1.rd R1 z1).bl_inv, ?_⟩
        cases k with
        | false => exact iteF (p G1 H1 _ s1 R1 (.bl false) (fun z => nomatch z))
        | true =>
          refine iteT (sb G1 H1 e1 σ _ R1 ?_)
          dsimp only at p
          cases eb : db e1 with
          | no => rw [eb] at p; exact p
          | ex q e2 => rw [eb] at p; exact fun G' H' cls dd s R e => p G' H' cls dd (s1.trans s) R e
          | ok y e2 => rw [eb] at p; exact fun G' H' v s R h k => p G' H' v (s1.trans s) R h (fun z => nomatch z)
      | _ => exact p.elim
theorem je_or {a b : Expr} {rest : List Expr} {da db : DE} {pos : Pos} (ha : JE X ct c W false a da) (hb : JE X ct c W false (.BoolOp .Or (b :: rest) pos) db) : JE X ct c W false (.BoolOp .Or (a :: b :: rest) pos) (dOrV da db) := by
  obtain ⟨ta, pa, sa⟩ := ha
  obtain ⟨tb, pb, sb⟩ := hb
  refine ⟨_, pe_or pa pb, fun G H env σ Q rel p => ?_⟩
  refine sa G H env σ _ rel ?_
  unfold dOrV at p
  cases ea : da env with
  | no => rw [ea] at p; exact p
  | ex q e1 => rw [ea] at p; exact p
  | ok x e1 =>
    rw [ea] at p
    intro G1 H1 v1 s1 R1 X1 _
    dsimp only at p
    cases z1 : rd e1 x with
    | none => rw [z1] at p; exact p.elim
    | some dx =>
      rw [z1] at p
      cases dx with
      | bl k =>
        refine ⟨k, (X1.rd R1 z1).bl_inv, ?_⟩
        cases k with
        | true => exact iteT (p G1 H1 _ s1 R1 (.bl true) (fun z => nomatch z))
        | false =>
          refine iteF (sb G1 H1 e1 σ _ R1 ?_)
          dsimp only at p
          cases eb : db e1 with
          | no => rw [eb] at p; exact p
          | ex q e2 => rw [eb] at p; exact fun G' H' cls dd s R e => p G' H' cls dd (s1.trans s) R e
          | ok y e2 => rw [eb] at p; exact fun G' H' v s R h k => p G' H' v (s1.trans s) R h (fun z => nomatch z)
      | _ => exact p.elim
def notOp : D → Option D
  | .bl b => some (.bl (!b))
  | _ => none
theorem je_not {a : Expr} {da : DE} {pos : Pos} (ha : JE X ct c W false a da) : JE X ct c W false (.UnaryOp .Not a pos) (dUn notOp da) := by
  obtain ⟨ta, pa, sa⟩ := ha
  refine ⟨_, pe_not pa, ?_⟩
  refine sim_un (r := fun x H Q => ∃ c, x = .bl c ∧ Q (.bl (!c)) H) (fun G H dx x d Q s r e o => ?_) sa
  cases dx with
  | bl b => cases e; exact ⟨b, r.bl_inv, o.val s (.bl _)⟩
  | _ => cases e
theorem sim_ifE {K : PySem.W.Frag} {t : TT} {ta tb : TE} {dt : DT} {a b : DE} (ht : SimT K ct c W t dt) (ha : SimE K ct c W f ta a) (hb : SimE K ct c W f tb b) : SimE K ct c W f (tIf t ta tb) (dIf dt a b) := fun G H env σ Q rel p => by
  refine ht G H env σ _ rel ?_
  unfold dIf at p
  cases ea : dt env with
  | no => rw [ea] at p; exact p
  | ex q e1 => rw [ea] at p; exact p
  | ok x e1 =>
    rw [ea] at p
    intro G1 H1 s1 R1
    have go : ∀ {t : TE} {d : DE}, SimE K ct c W f t d → PostE K ct c W f G H σ Q (d e1) → t σ H1 Q := fun {t d} h p => by
      refine h G1 H1 e1 σ _ R1 ?_
      cases eb : d e1 with
      | no => rw [eb] at p; exact p
      | ex q e2 => rw [eb] at p; exact fun G' H' cls dd s R e => p G' H' cls dd (s1.trans s) R e
      | ok y e2 => rw [eb] at p; exact fun G' H' v s R h k => p G' H' v (s1.trans s) R h (fun z q e => rel.back s1 R1 (k z q e))
    cases x with
    | true => exact iteT (go ha p)
    | false => exact iteF (go hb p)
theorem je_if {t a b : Expr} {dt : DT} {da db : DE} {pos : Pos} (ht : JT X ct c W t dt) (ha : JE X ct c W f a da) (hb : JE X ct c W f b db) : JE X ct c W f (.IfExp t a b pos) (dIf dt da db) :=
  let ⟨_, p, s⟩ := ht; let ⟨_, p1, s1⟩ := ha; let ⟨_, p2, s2⟩ := hb; ⟨_, pe_ifExp p p1 p2, sim_ifE s s1 s2⟩
/-! arguments -/
theorem ja_nil : JA X ct c W [] aNil := ⟨_, pa_nil, fun G H env σ Q rel p => p G H [] .refl rel .nil⟩
theorem ja_cons {e : Expr} {es : List Expr} {d : DE} {r : DA} (he : JE X ct c W false e d) (hr : JA X ct c W es r) (hs : starEach (e :: es) X.env = (false, eval e X.env) :: starEach es X.env := by rfl) : JA X ct c W (e :: es) (aCons d r) := by
  obtain ⟨ta, pa, sa⟩ := he
  obtain ⟨tb, pb, sb⟩ := hr
  refine ⟨_, pa_cons pa pb hs, fun G H env σ Q rel p => ?_⟩
  refine sa G H env σ _ rel ?_
  unfold aCons at p
  cases ea : d env with
  | no => rw [ea] at p; exact p
  | ex q e1 => rw [ea] at p; exact p
  | ok x e1 =>
    rw [ea] at p
    intro G1 H1 v1 s1 R1 X1 _
    refine sb G1 H1 e1 σ _ R1 ?_
    dsimp only at p
    cases eb : r e1 with
    | no => rw [eb] at p; exact p
    | ex q e2 => rw [eb] at p; exact fun G' H' cls dd s R e => p G' H' cls dd (s1.trans s) R e
    | ok y e2 => rw [eb] at p; exact fun G' H' vs s R h => p G' H' _ (s1.trans s) R (.cons (X1.mono s.g) h)
theorem sim_fn {K : PySem.W.Frag} {r : List V → Hp → VK → Prop} {g : List D → Option D} {ta : TA} {a : DA} (hs : FnS K ct f r g) (ha : SimA K ct c W ta a) : SimE K ct c W f (tCB r ta) (dFn g a) := fun G H env σ Q rel p => by
  refine ha G H env σ _ rel ?_
  unfold dFn at p
  cases ea : a env with
  | no => rw [ea] at p; exact p
  | ex q e1 => rw [ea] at p; exact p
  | ok x e1 =>
    rw [ea] at p
    intro G1 H1 v1 s1 R1 X1
    dsimp only at p
    cases z1 : rds e1 x with
    | none => rw [z1] at p; exact p.elim
    | some ds =>
      rw [z1] at p
      dsimp only at p
      cases z3 : g ds with
      | none => rw [z3] at p; exact p.elim
      | some d =>
        rw [z3] at p
        exact hs G1 H1 ds v1 d Q R1.sub (X1.rds R1 z1) z3 (Out.post R1 s1 p)
theorem je_callB {id : String} {x : Str} {r : List V → Hp → VK → Prop} {g : List D → Option D} {e : Expr} {es : List Expr} {a : DA} {p pos : Pos} (hc : CallR X (.builtin id) r) (hs : FnS X.K ct f r g) (hm : X.mg x = none) (ha : JA X ct c W (e :: es) a)
    (hg : Gl X x := by rfl) (hv : bootBuiltins x = some (.builtin id) := by decide +kernel) (hn : x ≠ "__name__" := by decide) (hdb : (x == ("__debug__" : Str)) = false := by decide) (he : starEach (e :: es) X.env = (false, eval e X.env) :: starEach es X.env := by rfl) (hpl : (backTo pos (starEach es X.env)).any (·.1) = false := by rfl) :
    JE X ct c W f (.Call (.Name x p) (e :: es) [] pos) (dFn g a) := let ⟨_, pa, sa⟩ := ha; ⟨_, pe_callB hc hg hm hv pa hn hdb he hpl, sim_fn hs sa⟩
theorem je_callTy {T : String} {x : Str} {r : List V → Hp → VK → Prop} {g : List D → Option D} {e : Expr} {es : List Expr} {a : DA} {p pos : Pos} (hc : CallR X (.type T) r) (hs : FnS X.K ct f r g) (hm : X.mg x = none) (ha : JA X ct c W (e :: es) a)
    (hg : Gl X x := by rfl) (hv : bootBuiltins x = some (.type T) := by decide +kernel) (hn : x ≠ "__name__" := by decide) (hdb : (x == ("__debug__" : Str)) = false := by decide) (he : starEach (e :: es) X.env = (false, eval e X.env) :: starEach es X.env := by rfl) (hpl : (backTo pos (starEach es X.env)).any (·.1) = false := by rfl) :
    JE X ct c W f (.Call (.Name x p) (e :: es) [] pos) (dFn g a) := let ⟨_, pa, sa⟩ := ha; ⟨_, pe_callTy hc hg hm hv pa hn hdb he hpl, sim_fn hs sa⟩
theorem clean_rvs {K : PySem.W.Frag} {G H : Hp} {σ : L2.St} : ∀ {rvs : List Rv} {vs : List V} {ds : List D}, RXs K ct c G H σ rvs vs → clean rvs = some ds → RVs K ct G ds vs := by
  intro rvs vs ds h
  induction h generalizing ds with
  | nil => intro e; cases e; exact .nil
  | @cons r v rs vs hr ht ih =>
    intro e
    cases r with
    | slot i => cases e
    | val d =>
      unfold clean at e
      cases z : clean rs with
      | none => rw [z] at e; cases e
      | some q => rw [z] at e; cases e; exact .cons hr (ih z)
theorem million : (1000000 : Nat) ≤ sizeLine := by decide
theorem je_tup {es : List Expr} {a : DA} {x1} {pos : Pos} (ha : JA X ct c W es a) : JE X ct c W false (.Tuple es x1 pos) (dDisp .tup a) := by
  obtain ⟨ta, pa, sa⟩ := ha
  refine ⟨_, pe_tup pa, fun G H env σ Q rel p => ?_⟩
  refine sa G H env σ _ rel ?_
  unfold dDisp at p
  cases ea : a env with
  | no => rw [ea] at p; exact p
  | ex q e1 => rw [ea] at p; exact p
  | ok x e1 =>
    rw [ea] at p
    intro G1 H1 v1 s1 R1 X1
    dsimp only at p
    cases z1 : clean x with
    | none => rw [z1] at p; exact p.elim
    | some ds =>
      rw [z1] at p
      dsimp only at p
      have rv := clean_rvs X1 z1
      by_cases hl : ds.length ≤ 1000000
      · rw [if_pos hl] at p
        refine ⟨by rw [← rv.len]; exact Nat.le_trans hl million, fun q hq => ?_⟩
        exact (Out.post R1 s1 p).newT R1.sub hq rv
      · rw [if_neg hl] at p; exact p.elim
theorem je_lst {es : List Expr} {a : DA} {pos : Pos} (ha : JA X ct c W es a) : JE X ct c W true (.List es pos) (dDisp .lst a) := by
  obtain ⟨ta, pa, sa⟩ := ha
  refine ⟨_, pe_lst pa, fun G H env σ Q rel p => ?_⟩
  refine sa G H env σ _ rel ?_
  unfold dDisp at p
  cases ea : a env with
  | no => rw [ea] at p; exact p
  | ex q e1 => rw [ea] at p; exact p
  | ok x e1 =>
    rw [ea] at p
    intro G1 H1 v1 s1 R1 X1
    dsimp only at p
    cases z1 : clean x with
    | none => rw [z1] at p; exact p.elim
    | some ds =>
      rw [z1] at p
      dsimp only at p
      have rv := clean_rvs X1 z1
      by_cases hl : ds.length ≤ 1000000
      · rw [if_pos hl] at p
        refine ⟨by rw [← rv.len]; exact Nat.le_trans hl million, fun q hq => ?_⟩
        exact (Out.post R1 s1 p).newL R1.sub hq rv
      · rw [if_neg hl] at p; exact p.elim
end
end Dn

namespace Dn
open PySem PySem.Spec PyProof.Rows L2
def JS (X : Cx) (ct : Nat → Addr) (c : Cf) (W : WX) (e : Stmt) (d : DS) : Prop := ∃ t, PS X e t ∧ SimS X.K ct c W t d
def JSs (X : Cx) (ct : Nat → Addr) (c : Cf) (W : WX) (e : List Stmt) (d : DS) : Prop := ∃ t, PSs X e t ∧ SimS X.K ct c W t d
/-! combinators -/
def sNil : DS := fun env => .nx env
def sSeq (a b : DS) : DS := fun env => match a env with
  | .nx e => b e
  | r => r
def sRet (a : DE) : DS := fun env => match a env with
  | .ok r e => .rt r e
  | .ex q e => .ex q e
  | .no => .no
def sRetN (a : DE) : DS := fun env => match a env with
  | .ok (.val d) e => .rn d e
  | .ok _ _ => .no
  | .ex q e => .ex q e
  | .no => .no
def sExpr (a : DE) : DS := fun env => match a env with
  | .ok _ e => .nx e
  | .ex q e => .ex q e
  | .no => .no
def sIf (t : DT) (a b : DS) : DS := fun env => match t env with
  | .ok true e => a e
  | .ok false e => b e
  | .ex q e => .ex q e
  | .no => .no
def sSet (i : Nat) (a : DE) : DS := fun env => match a env with
  | .ok (.val d) e => .nx (e.set i (some d))
  | .ok _ _ => .no
  | .ex q e => .ex q e
  | .no => .no
def sAug (i : Nat) (g : D → D → Option D) (a : DE) : DS := fun env => match look env i with
  | some dx => match a env with
    | .ok y e => match rd e y with
      | some dy => match g dx dy with | some d => .nx (e.set i (some d)) | none => .no
      | none => .no
    | .ex q e => .ex q e
    | .no => .no
  | none => .no
section
variable {K : PySem.W.Frag} {ct : Nat → Addr} {c : Cf} {W : WX} {G G' H H' : Hp} {env env' : Env} {σ : L2.St}
theorem PostS.mono {E : Ends} {r : RS} (p : PostS K ct c W G E r) (s : Same G G') : PostS K ct c W G' E r := by
  cases r with
  | nx e => exact fun G1 H1 σ1 s1 R => p G1 H1 σ1 (s.trans s1) R
  | bk e => exact fun G1 H1 σ1 s1 R => p G1 H1 σ1 (s.trans s1) R
  | ct e => exact fun G1 H1 σ1 s1 R => p G1 H1 σ1 (s.trans s1) R
  | rt rv e => exact fun G1 H1 σ1 v s1 R h => p G1 H1 σ1 v (s.trans s1) R h
  | rn d e => exact fun G1 H1 σ1 v s1 R h k => p G1 H1 σ1 v (s.trans s1) R h k
  | ex x e => exact fun G1 H1 σ1 cls dd s1 R h => p G1 H1 σ1 cls dd (s.trans s1) R h
  | no => exact p
theorem getElem?_set_opt {α : Type} (l : List α) (i j : Nat) (x : α) : (l.set i x)[j]? = if i = j then (if i < l.length then some x else none) else l[j]? := by
  rw [List.getElem?_set]
/-- a slot that is no own one gets a known value -/
theorem Rel.set {i : Nat} {d : D} {v : V} (r : Rel K ct c G H env σ) (hi : i ∉ c.own) (hv : RV K ct G d v) : Rel K ct c G H (env.set i (some d)) (σ.set i (some v)) where
  sub := r.sub
  up := r.up
  dn := r.dn
  fr := r.fr
  ioH := r.ioH
  len := by rw [List.length_set, List.length_set]; exact r.len
  slot := fun j d' e => by
    by_cases hj : i = j
    · subst hj
      have hl : i < env.length := by
        have := List.getElem?_eq_some_iff.mp e
        obtain ⟨h, _⟩ := this
        rw [List.length_set] at h; exact h
      rw [List.getElem?_set_self hl] at e
      cases e
      exact ⟨v, List.getElem?_set_self (by rw [← r.len]; exact hl), fun _ => hv, fun z => absurd z hi⟩
    · rw [List.getElem?_set_ne hj] at e
      rw [List.getElem?_set_ne hj]
      exact r.slot j d' e
  dis := fun a b p ha hb e1 e2 gp => by
    have na : i ≠ a := fun z => hi (z ▸ ha)
    have nb : i ≠ b := fun z => hi (z ▸ hb)
    rw [List.getElem?_set_ne na] at e1
    rw [List.getElem?_set_ne nb] at e2
    exact r.dis a b p ha hb e1 e2 gp
  un := fun j e => by
    by_cases hj : i = j
    · subst hj
      have hl : i < env.length := by
        obtain ⟨h, _⟩ := List.getElem?_eq_some_iff.mp e
        rw [List.length_set] at h; exact h
      rw [List.getElem?_set_self hl] at e; cases e
    · rw [List.getElem?_set_ne hj] at e
      rw [List.getElem?_set_ne hj]
      exact r.un j e
  fix := fun p hp => by
    obtain ⟨h0, h1, h2⟩ := r.fix p hp
    refine ⟨h0, ?_, h2⟩
    have ne : i ≠ 0 := fun z => hi (by rw [z]; exact h0)
    rw [List.getElem?_set_ne ne]
    exact h1
  pin := fun q hq => by
    obtain ⟨h0, h1⟩ := r.pin q hq
    refine ⟨h0, ?_⟩
    rw [List.getElem?_set_ne (fun z => hi (by rw [z]; exact h0))]
    exact h1
  tp := r.tp
/-- an own slot gets a new object -/
theorem Rel.setN {i : Nat} {d : D} {v : V} (r : Rel K ct c G H env σ) (hi : i ∈ c.own) (h0 : c.iop = none ∨ i ≠ 0) (hpn : c.pins.all (fun q => q.1 != i) = true) (hv : ROwn K ct G H d v) (hn : ∀ p, v = .ref p → c.H0 p = none) (hd : ∀ j, j ∈ c.own → σ[j]? ≠ some (some v)) : Rel K ct c G H (env.set i (some d)) (σ.set i (some v)) where
  sub := r.sub
  up := r.up
  dn := r.dn
  fr := r.fr
  ioH := r.ioH
  len := by rw [List.length_set, List.length_set]; exact r.len
  slot := fun j d' e => by
    by_cases hj : i = j
    · subst hj
      have hl : i < env.length := by
        obtain ⟨h, _⟩ := List.getElem?_eq_some_iff.mp e
        rw [List.length_set] at h; exact h
      rw [List.getElem?_set_self hl] at e
      cases e
      exact ⟨v, List.getElem?_set_self (by rw [← r.len]; exact hl), fun z => absurd hi z, fun _ => .inl ⟨hv, fun p e => .inl (hn p e)⟩⟩
    · rw [List.getElem?_set_ne hj] at e
      rw [List.getElem?_set_ne hj]
      exact r.slot j d' e
  dis := fun a b p ha hb e1 e2 gp => by
    obtain ⟨p', o', rfl, _, _⟩ := hv.top
    by_cases na : i = a
    · subst na
      by_cases nb : i = b
      · exact nb
      · rw [List.getElem?_set_ne nb] at e2
        have hl : i < σ.length := by
          obtain ⟨h, _⟩ := List.getElem?_eq_some_iff.mp e1
          rw [List.length_set] at h; exact h
        rw [List.getElem?_set_self hl] at e1
        cases e1
        exact absurd e2 (hd b hb)
    · rw [List.getElem?_set_ne na] at e1
      by_cases nb : i = b
      · subst nb
        have hl : i < σ.length := by
          obtain ⟨h, _⟩ := List.getElem?_eq_some_iff.mp e2
          rw [List.length_set] at h; exact h
        rw [List.getElem?_set_self hl] at e2
        cases e2
        exact absurd e1 (hd a ha)
      · rw [List.getElem?_set_ne nb] at e2
        exact r.dis a b p ha hb e1 e2 gp
  un := fun j e => by
    by_cases hj : i = j
    · subst hj
      have hl : i < env.length := by
        obtain ⟨h, _⟩ := List.getElem?_eq_some_iff.mp e
        rw [List.length_set] at h; exact h
      rw [List.getElem?_set_self hl] at e; cases e
    · rw [List.getElem?_set_ne hj] at e
      rw [List.getElem?_set_ne hj]
      exact r.un j e
  fix := fun p hp => by
    obtain ⟨q0, q1, q2⟩ := r.fix p hp
    refine ⟨q0, ?_, q2⟩
    have : i ≠ 0 := h0.elim (fun z => by rw [z] at hp; cases hp) id
    rw [List.getElem?_set_ne this]
    exact q1
  pin := fun q hq => by
    obtain ⟨q0, q1⟩ := r.pin q hq
    have z := List.all_eq_true.mp hpn q hq
    exact ⟨q0, by rw [List.getElem?_set_ne (fun y => by rw [y] at z; simp at z)]; exact q1⟩
  tp := r.tp
/-- an own slot gets something known for good -/
theorem Rel.setF {i : Nat} {d : D} {v : V} (r : Rel K ct c G H env σ) (hi : i ∈ c.own) (h0 : c.iop = none ∨ i ≠ 0) (hpn : c.pins.all (fun q => q.1 != i) = true) (hv : RV K ct G d v) (hn : ∀ p, v = .ref p → ∃ o, G p = some o) : Rel K ct c G H (env.set i (some (.fz d))) (σ.set i (some v)) where
  sub := r.sub
  up := r.up
  dn := r.dn
  fr := r.fr
  ioH := r.ioH
  len := by rw [List.length_set, List.length_set]; exact r.len
  slot := fun j d' e => by
    by_cases hj : i = j
    · subst hj
      have hl : i < env.length := by
        obtain ⟨h, _⟩ := List.getElem?_eq_some_iff.mp e
        rw [List.length_set] at h; exact h
      rw [List.getElem?_set_self hl] at e
      cases e
      exact ⟨v, List.getElem?_set_self (by rw [← r.len]; exact hl), fun z => absurd hi z, fun _ => .inr ⟨d, rfl, hv, hn⟩⟩
    · rw [List.getElem?_set_ne hj] at e
      rw [List.getElem?_set_ne hj]
      exact r.slot j d' e
  dis := fun a b p ha hb e1 e2 gp => by
    have no : ∀ a, a ∈ c.own → (σ.set i (some v))[a]? = some (some (.ref p)) → i ≠ a := fun a ha e1 na => by
      subst na
      have hl : i < σ.length := by
        obtain ⟨h, _⟩ := List.getElem?_eq_some_iff.mp e1
        rw [List.length_set] at h; exact h
      rw [List.getElem?_set_self hl] at e1
      cases e1
      obtain ⟨o, ho⟩ := hn p rfl
      rw [gp] at ho; cases ho
    rw [List.getElem?_set_ne (no a ha e1)] at e1
    rw [List.getElem?_set_ne (no b hb e2)] at e2
    exact r.dis a b p ha hb e1 e2 gp
  un := fun j e => by
    by_cases hj : i = j
    · subst hj
      have hl : i < env.length := by
        obtain ⟨h, _⟩ := List.getElem?_eq_some_iff.mp e
        rw [List.length_set] at h; exact h
      rw [List.getElem?_set_self hl] at e; cases e
    · rw [List.getElem?_set_ne hj] at e
      rw [List.getElem?_set_ne hj]
      exact r.un j e
  fix := fun p hp => by
    obtain ⟨q0, q1, q2⟩ := r.fix p hp
    refine ⟨q0, ?_, q2⟩
    have : i ≠ 0 := h0.elim (fun z => by rw [z] at hp; cases hp) id
    rw [List.getElem?_set_ne this]
    exact q1
  pin := fun q hq => by
    obtain ⟨q0, q1⟩ := r.pin q hq
    have z := List.all_eq_true.mp hpn q hq
    exact ⟨q0, by rw [List.getElem?_set_ne (fun y => by rw [y] at z; simp at z)]; exact q1⟩
  tp := r.tp
/-- an own object is known for good from here on -/
theorem Rel.frz {i : Nat} {d : D} {p : Addr} {o : HO} (r : Rel K ct c G H env σ) (hi : i ∈ c.own) (h0 : c.iop = none ∨ i ≠ 0) (hd : env[i]? = some (some d)) (hσ : σ[i]? = some (some (.ref p))) (hv : ROwn K ct G H d (.ref p)) (h1 : c.H0 p = none ∨ p ∈ c.io) (ho : H p = some o) : Rel K ct c (upd G p o) H (env.set i (some (.fz d))) σ := by
  have hg : G p = none := by obtain ⟨_, _, e, _, z⟩ := hv.top; cases e; exact z
  have sm : Same G (upd G p o) := fun b x e => by rw [upd_ne (ne_of_none e hg)]; exact e
  have hl : i < env.length := (List.getElem?_eq_some_iff.mp hd).1
  have iono : ∀ q, c.iop = some q → q ≠ p := fun q hq z => by
    subst z
    obtain ⟨x1, x2, x3⟩ := r.fix q hq
    have := r.dis 0 i q x1 hi x2 hσ x3
    rcases h0 with y | y
    · rw [y] at hq; cases hq
    · exact y this.symm
  have h1' : c.H0 p = none := h1.elim id fun z => by
    unfold Cf.io at z
    cases e : c.iop with
    | none => rw [e] at z; simp at z
    | some q => rw [e] at z; simp at z; exact absurd z.symm (iono q e)
  refine ⟨fun b x e => ?_, fun b x e => ?_, r.dn.trans sm, r.fr, r.ioH, by rw [List.length_set]; exact r.len, fun j d' e => ?_, fun a b q ha hb e1 e2 gp => r.dis a b q ha hb e1 e2 (sm.free gp), fun j e => ?_, fun q hq => ?_, r.pin, fun b vs e => sm _ _ (r.tp b vs e)⟩
  · by_cases hb : b = p
    · subst hb; rw [upd_same] at e; cases e; exact ho
    · rw [upd_ne hb] at e; exact r.sub _ _ e
  · by_cases hb : b = p
    · subst hb; exact .inr h1'
    · rw [upd_ne hb] at e; exact r.up _ _ e
  · by_cases hj : i = j
    · subst hj
      rw [List.getElem?_set_self hl] at e
      cases e
      exact ⟨_, hσ, fun z => absurd hi z, fun _ => .inr ⟨d, rfl, own_frz hv ho, fun q e => by cases e; exact ⟨o, upd_same⟩⟩⟩
    · rw [List.getElem?_set_ne hj] at e
      obtain ⟨v, e1, a1, a2⟩ := r.slot j d' e
      refine ⟨v, e1, fun z => (a1 z).mono sm, fun hjo => ?_⟩
      rcases a2 hjo with ⟨b1, b2⟩ | ⟨d2, e2, b1, b2⟩
      · obtain ⟨p', o', rfl, hp', hg'⟩ := b1.top
        have ne : p' ≠ p := fun z => by subst z; exact hj (r.dis i j _ hi hjo hσ e1 hg')
        exact .inl ⟨b1.step sm (fun _ z => z) (by rw [upd_ne ne]; exact hg'), b2⟩
      · exact .inr ⟨d2, e2, b1.mono sm, fun q e => let ⟨u, hu⟩ := b2 q e; ⟨u, sm _ _ hu⟩⟩
  · by_cases hj : i = j
    · subst hj
      rw [List.getElem?_set_self hl] at e; cases e
    · rw [List.getElem?_set_ne hj] at e
      exact r.un j e
  · obtain ⟨x1, x2, x3⟩ := r.fix q hq
    exact ⟨x1, x2, by rw [upd_ne (iono q hq)]; exact x3⟩
/-- an own object is changed -/
theorem Rel.write {i : Nat} {d : D} {p : Addr} {o : HO} (r : Rel K ct c G H env σ) (hi : i ∈ c.own) (hσ : σ[i]? = some (some (.ref p))) (hg : G p = none) (hv : ROwn K ct G (upd H p o) d (.ref p)) : Rel K ct c G (upd H p o) (env.set i (some d)) σ := by
  obtain ⟨d0, hd0⟩ := r.set_of hσ
  obtain ⟨v0, hv0, _, q0⟩ := r.slot i d0 hd0
  rw [hσ] at hv0; cases hv0
  have q2 : ∀ q, V.ref p = .ref q → c.H0 q = none ∨ q ∈ c.io := by
    rcases q0 hi with ⟨_, q2⟩ | ⟨_, _, _, q2⟩
    · exact q2
    · obtain ⟨u, hu⟩ := q2 p rfl; rw [hg] at hu; cases hu
  have hl : i < env.length := (List.getElem?_eq_some_iff.mp hd0).1
  refine ⟨fun b x e => ?_, r.up, r.dn, fun b x e hb => ?_, fun b hb => ?_, by rw [List.length_set]; exact r.len, fun j d' e => ?_, r.dis, fun j e => ?_, r.fix, r.pin, fun b vs e => by
    by_cases hb : b = p
    · subst hb; exact absurd e (hv.notTup vs)
    · rw [upd_ne hb] at e; exact r.tp b vs e⟩
  · rw [upd_ne (ne_of_none e hg)]; exact r.sub _ _ e
  · by_cases z : b = p
    · subst z
      rcases q2 _ rfl with w | w
      · rw [w] at e; cases e
      · exact absurd w hb
    · rw [upd_ne z]; exact r.fr _ _ e hb
  · by_cases z : b = p
    · subst z; exact ⟨o, upd_same⟩
    · rw [upd_ne z]; exact r.ioH _ hb
  · by_cases hj : i = j
    · subst hj
      rw [List.getElem?_set_self hl] at e
      cases e
      exact ⟨_, hσ, fun z => absurd hi z, fun _ => .inl ⟨hv, q2⟩⟩
    · rw [List.getElem?_set_ne hj] at e
      obtain ⟨v, e1, a1, a2⟩ := r.slot j d' e
      refine ⟨v, e1, a1, fun hjo => ?_⟩
      rcases a2 hjo with ⟨b1, b2⟩ | b
      · obtain ⟨p', o', rfl, hp', hg'⟩ := b1.top
        have ne : p' ≠ p := fun z => by subst z; exact hj (r.dis i j _ hi hjo hσ e1 hg')
        refine .inl ⟨b1.step (.refl _) (fun u hu => ?_) hg', b2⟩
        rw [upd_ne ne]; exact hu
      · exact .inr b
  · by_cases hj : i = j
    · subst hj
      rw [List.getElem?_set_self hl] at e; cases e
    · rw [List.getElem?_set_ne hj] at e
      exact r.un j e
end
section
variable {X : Cx} {ct : Nat → Addr} {c : Cf} {W : WX} {f : Bool}
theorem jss_nil : JSs X ct c W [] sNil := ⟨_, pss_nil, fun G H env σ E r p => p G H σ (.refl _) r⟩
theorem sim_seq {K : PySem.W.Frag} {t u : TS} {a b : DS} (ha : SimS K ct c W t a) (hb : SimS K ct c W u b) : SimS K ct c W (tSeq t u) (sSeq a b) := fun G H env σ E r p => by
  refine ha G H env σ _ r ?_
  unfold sSeq at p
  cases ea : a env with
  | nx e =>
    rw [ea] at p
    exact fun G1 H1 σ1 s1 R => hb G1 H1 e σ1 E R (PostS.mono p s1)
  | bk e => rw [ea] at p; exact p
  | ct e => rw [ea] at p; exact p
  | rt rv e => rw [ea] at p; exact p
  | rn d e => rw [ea] at p; exact p
  | ex x e => rw [ea] at p; exact p
  | no => rw [ea] at p; exact p
theorem jss_cons {st : Stmt} {rest : List Stmt} {a b : DS} (ha : JS X ct c W st a) (hb : JSs X ct c W rest b) : JSs X ct c W (st :: rest) (sSeq a b) :=
  let ⟨_, p1, s1⟩ := ha; let ⟨_, p2, s2⟩ := hb; ⟨_, pss_cons p1 p2, sim_seq s1 s2⟩
theorem jss_one {st : Stmt} {a : DS} (ha : JS X ct c W st a) : JSs X ct c W [st] a := let ⟨_, p1, s1⟩ := ha; ⟨_, pss_one p1, s1⟩
theorem js_pass {pos : Pos} : JS X ct c W (.Pass pos) sNil := ⟨_, ps_pass, fun G H env σ E r p => p G H σ (.refl _) r⟩
theorem js_doc {x j pos pos'} : JS X ct c W (.Expr (.Constant (.str x) j pos) pos') sNil := ⟨_, ps_doc, fun G H env σ E r p => p G H σ (.refl _) r⟩
theorem js_break {pos : Pos} : JS X ct c W (.Break pos) (fun env => .bk env) := ⟨_, ps_break, fun G H env σ E r p => p G H σ (.refl _) r⟩
theorem js_continue {pos : Pos} : JS X ct c W (.Continue pos) (fun env => .ct env) := ⟨_, ps_continue, fun G H env σ E r p => p G H σ (.refl _) r⟩
theorem js_ret {e : Expr} {d : DE} {pos : Pos} (he : JE X ct c W false e d) : JS X ct c W (.Return (some e) pos) (sRet d) := by
  obtain ⟨t, p1, s1⟩ := he
  refine ⟨_, ps_ret p1, fun G H env σ E r p => ?_⟩
  refine s1 G H env σ _ r ?_
  unfold sRet at p
  cases ea : d env with
  | no => rw [ea] at p; exact p
  | ex q e1 => rw [ea] at p; exact fun G1 H1 cls dd s R h => p G1 H1 σ cls dd s.g R h
  | ok rv e1 => rw [ea] at p; exact fun G1 H1 v s R h _ => p G1 H1 σ v s.g R h
theorem js_retN {e : Expr} {d : DE} {pos : Pos} (he : JE X ct c W true e d) : JS X ct c W (.Return (some e) pos) (sRetN d) := by
  obtain ⟨t, p1, s1⟩ := he
  refine ⟨_, ps_ret p1, fun G H env σ E r p => ?_⟩
  refine s1 G H env σ _ r ?_
  unfold sRetN at p
  cases ea : d env with
  | no => rw [ea] at p; exact p
  | ex q e1 => rw [ea] at p; exact fun G1 H1 cls dd s R h => p G1 H1 σ cls dd s.g R h
  | ok rv e1 =>
    rw [ea] at p
    cases rv with
    | slot i => exact p.elim
    | val dv => exact fun G1 H1 v s R h hn => p G1 H1 σ v s.g R h (fun q e => r.h0 (hn rfl q e))
theorem js_expr {e : Expr} {d : DE} {pos : Pos} (he : JE X ct c W f e d) (hs : swapsWith e none pos.line X.env = pure false := by rfl) : JS X ct c W (.Expr e pos) (sExpr d) := by
  obtain ⟨t, p1, s1⟩ := he
  refine ⟨_, ps_expr p1 hs, fun G H env σ E r p => ?_⟩
  refine s1 G H env σ _ r ?_
  unfold sExpr at p
  cases ea : d env with
  | no => rw [ea] at p; exact p
  | ex q e1 => rw [ea] at p; exact fun G1 H1 cls dd s R h => p G1 H1 σ cls dd s.g R h
  | ok rv e1 => rw [ea] at p; exact fun G1 H1 v s R h _ => p G1 H1 σ s.g R
theorem js_if {t : Expr} {a b : List Stmt} {dt : DT} {da db : DS} {pos : Pos} (ht : JT X ct c W t dt) (ha : JSs X ct c W a da) (hb : JSs X ct c W b db) : JS X ct c W (.If t a b pos) (sIf dt da db) := by
  obtain ⟨tt, pt, st⟩ := ht
  obtain ⟨ta, pa, sa⟩ := ha
  obtain ⟨tb, pb, sb⟩ := hb
  refine ⟨_, ps_if pt pa pb, fun G H env σ E r p => ?_⟩
  refine st G H env σ _ r ?_
  unfold sIf at p
  cases ea : dt env with
  | no => rw [ea] at p; exact p
  | ex q e1 => rw [ea] at p; exact fun G1 H1 cls dd s R h => p G1 H1 σ cls dd s.g R h
  | ok k e1 =>
    rw [ea] at p
    cases k with
    | true => exact fun G1 H1 s R => iteT (sa G1 H1 e1 σ E R (PostS.mono p s.g))
    | false => exact fun G1 H1 s R => iteF (sb G1 H1 e1 σ E R (PostS.mono p s.g))
theorem sim_set {K : PySem.W.Frag} {t : TE} {d : DE} {i : Nat} (hi : i ∉ c.own) (s1 : SimE K ct c W false t d) : SimS K ct c W (tAsg t (gName i)) (sSet i d) := fun G H env σ E r p => by
  refine s1 G H env σ _ r ?_
  unfold sSet at p
  cases ea : d env with
  | no => rw [ea] at p; exact p
  | ex q e1 => rw [ea] at p; exact fun G1 H1 cls dd s R h => p G1 H1 σ cls dd s.g R h
  | ok rv e1 =>
    rw [ea] at p
    cases rv with
    | slot i => exact p.elim
    | val dv => exact fun G1 H1 v s R h _ => p G1 H1 _ s.g (R.set hi h)
theorem js_set {i : Nat} {x : Str} {e : Expr} {d : DE} {pos pos' : Pos} (hi : decide (i ∈ c.own) = false) (hN : X.N.Nodup) (he : JE X ct c W false e d) (hx : X.N[i]? = some x := by rfl) (hl : Loc X.env.scope x := by first | exact Or.inl rfl | exact Or.inr rfl) (hs : swapsWith e (some (.Name x pos')) pos.line X.env = pure false := by rfl) (hf : X.fn x = true ∨ X.env.scope.names.lookup x = some .local := by first | exact .inl rfl | exact .inr rfl) :
    JS X ct c W (.Assign [.Name x pos'] e pos) (sSet i d) := let ⟨_, p1, s1⟩ := he; ⟨_, ps_set hN hx hl p1 hs hf, sim_set (of_decide_eq_false hi) s1⟩
theorem sim_setN {K : PySem.W.Frag} {t : TE} {d : DE} {i : Nat} (hi : i ∈ c.own) (h0 : i ≠ 0) (hpn : c.pins.all (fun q => q.1 != i) = true) (s1 : SimE K ct c W true t d) : SimS K ct c W (tAsg t (gName i)) (sSet i d) := fun G H env σ E r p => by
  refine s1 G H env σ _ r ?_
  unfold sSet at p
  cases ea : d env with
  | no => rw [ea] at p; exact p
  | ex q e1 => rw [ea] at p; exact fun G1 H1 cls dd s R h => p G1 H1 σ cls dd s.g R h
  | ok rv e1 =>
    rw [ea] at p
    cases rv with
    | slot i => exact p.elim
    | val dv =>
      intro G1 H1 v s R h hn
      have h' : ROwn K ct G1 H1 dv v := h
      obtain ⟨q, _, rfl, _, _⟩ := h'.top
      refine p G1 H1 _ s.g (R.setN hi (.inr h0) hpn h (fun q e => r.h0 (hn rfl q e)) fun j hj hσ => ?_)
      obtain ⟨o, hq⟩ := r.own_ref hj hσ
      rw [hn rfl q rfl] at hq; cases hq
theorem js_setN {i : Nat} {x : Str} {e : Expr} {d : DE} {pos pos' : Pos} (hi : decide (i ∈ c.own) = true) (hN : X.N.Nodup) (he : JE X ct c W true e d) (h0 : i ≠ 0 := by decide) (hpn : c.pins.all (fun q => q.1 != i) = true := by rfl) (hx : X.N[i]? = some x := by rfl) (hl : Loc X.env.scope x := by first | exact Or.inl rfl | exact Or.inr rfl) (hs : swapsWith e (some (.Name x pos')) pos.line X.env = pure false := by rfl) (hf : X.fn x = true ∨ X.env.scope.names.lookup x = some .local := by first | exact .inl rfl | exact .inr rfl) :
    JS X ct c W (.Assign [.Name x pos'] e pos) (sSet i d) := let ⟨_, p1, s1⟩ := he; ⟨_, ps_set hN hx hl p1 hs hf, sim_setN (of_decide_eq_true hi) h0 hpn s1⟩
def addInt : D → D → Option D
  | .int i, .int j => some (.int (i + j))
  | _, _ => none
theorem js_augAdd {i : Nat} {x : Str} {e : Expr} {d : DE} {pos pos' : Pos} (hi : decide (i ∈ c.own) = false) (hN : X.N.Nodup) (he : JE X ct c W false e d) (hx : X.N[i]? = some x := by rfl) (hl : Loc X.env.scope x := by first | exact Or.inl rfl | exact Or.inr rfl) (hf : X.fn x = true ∨ X.env.scope.names.lookup x = some .local := by first | exact .inl rfl | exact .inr rfl) :
    JS X ct c W (.AugAssign (.Name x pos') .Add e pos) (sAug i addInt d) := by
  obtain ⟨t, p1, s1⟩ := he
  have hi' := of_decide_eq_false hi
  refine ⟨_, ps_aug hN hx hl p1 ip_add hf, fun G H env σ E r p => ?_⟩
  unfold sAug at p
  cases e0 : look env i with
  | none => rw [e0] at p; exact p.elim
  | some dx =>
    rw [e0] at p
    obtain ⟨v, hv, h1, _⟩ := r.slot i dx (of_look e0)
    refine ⟨v, hv, s1 G H env σ _ r ?_⟩
    dsimp only at p
    cases ea : d env with
    | no => rw [ea] at p; exact p
    | ex q e1 => rw [ea] at p; exact fun G1 H1 cls dd s R h => p G1 H1 σ cls dd s.g R h
    | ok rv e1 =>
      rw [ea] at p
      intro G1 H1 v1 s R h _
      dsimp only at p
      cases z : rd e1 rv with
      | none => rw [z] at p; exact p.elim
      | some dy =>
        rw [z] at p
        dsimp only at p
        cases z2 : addInt dx dy with
        | none => rw [z2] at p; exact p.elim
        | some dz =>
          rw [z2] at p
          unfold addInt at z2
          split at z2
          · cases z2
            exact ⟨_, _, ((h1 hi').mono s.g).int_inv, (h.rd R z).int_inv, p G1 H1 _ s.g (R.set hi' (.int _))⟩
          · cases z2
/-! targets -/
abbrev DG := D → Env → Option Env
def SimG (K : PySem.W.Frag) (ct : Nat → Addr) (c : Cf) (g : TG) (d : DG) : Prop := ∀ G H env env' σ x v Q, Rel K ct c G H env σ → RV K ct G x v → d x env = some env' → (∀ σ', Rel K ct c G H env' σ' → Q σ' H) → g v σ H Q
def JG (X : Cx) (ct : Nat → Addr) (c : Cf) (tg : Expr) (d : DG) : Prop := ∃ g, PG X tg g ∧ SimG X.K ct c g d
abbrev DGs := List D → Env → Option Env
def SimGs (K : PySem.W.Frag) (ct : Nat → Addr) (c : Cf) (g : TGs) (d : DGs) : Prop := ∀ G H env env' σ x v Q, Rel K ct c G H env σ → RVs K ct G x v → d x env = some env' → (∀ σ', Rel K ct c G H env' σ' → Q σ' H) → g v σ H Q
def JGs (X : Cx) (ct : Nat → Addr) (c : Cf) (tg : List Expr) (d : DGs) : Prop := ∃ g, PGs X tg g ∧ SimGs X.K ct c g d
def gN (i : Nat) : DG := fun d env => some (env.set i (some d))
theorem jg_name {i : Nat} {x : Str} {pos : Pos} (hi : decide (i ∈ c.own) = false) (hN : X.N.Nodup) (hx : X.N[i]? = some x := by rfl) (hl : Loc X.env.scope x := by first | exact Or.inl rfl | exact Or.inr rfl) (hf : X.fn x = true ∨ X.env.scope.names.lookup x = some .local := by first | exact .inl rfl | exact .inr rfl) : JG X ct c (.Name x pos) (gN i) :=
  ⟨_, pg_name hN hx hl hf, fun G H env env' σ x v Q r h e k => by cases e; exact k _ (r.set (of_decide_eq_false hi) h)⟩
def gsNil : DGs := fun ds env => match ds with | [] => some env | _ => none
def gsCons (a : DG) (b : DGs) : DGs := fun ds env => match ds with
  | [] => none
  | d :: r => match a d env with | some e => b r e | none => none
theorem jgs_nil : JGs X ct c [] gsNil := ⟨_, pgs_nil, fun G H env env' σ x v Q r h e k => by
  cases h with
  | nil => cases e; exact ⟨rfl, k _ r⟩
  | cons _ _ => cases e⟩
theorem jgs_cons {e : Expr} {es : List Expr} {a : DG} {b : DGs} (ha : JG X ct c e a) (hb : JGs X ct c es b) (hs : (assignEach (e :: es) X.env).map (·.2) = assign e X.env :: (assignEach es X.env).map (·.2) := by rfl) : JGs X ct c (e :: es) (gsCons a b) := by
  obtain ⟨t, p1, s1⟩ := ha
  obtain ⟨u, p2, s2⟩ := hb
  refine ⟨_, pgs_cons p1 p2 hs, fun G H env env' σ x v Q r h e k => ?_⟩
  cases h with
  | nil => cases e
  | @cons d v ds vs r1 r2 =>
    unfold gsCons at e
    dsimp only at e
    cases z : a d env with
    | none => rw [z] at e; cases e
    | some e1 =>
      rw [z] at e
      exact ⟨_, _, rfl, s1 G H env e1 σ d v _ r r1 z fun σ1 R1 => s2 G H e1 env' σ1 ds vs Q R1 r2 e k⟩
def gTp (n : Nat) (b : DGs) : DG := fun d env => match d with
  | .tup xs => if xs.length = n then b xs env else none
  | _ => none
theorem jg_tup {es : List Expr} {kk : Nat} {b : DGs} {n : Nat} {pos : Pos} (hc : X.calm = true) (hb : JGs X ct c es b) (hn : (assignEach es X.env).length = n := by rfl) (hst : (assignEach es X.env).findIdx? (·.1) = none := by rfl) : JG X ct c (.Tuple es kk pos) (gTp n b) := by
  obtain ⟨t, p1, s1⟩ := hb
  refine ⟨_, pg_tup hc p1 hn hst, fun G H env env' σ x v Q r h e k => ?_⟩
  unfold gTp at e
  cases h with
  | @tup p xs vs hp hv =>
    dsimp only at e
    by_cases hl : xs.length = n
    · rw [if_pos hl] at e
      exact ⟨p, vs, rfl, .inl (.inl (r.sub _ _ hp)), by rw [← hv.len]; exact hl, s1 G H env env' σ xs vs Q r hv e k⟩
    · rw [if_neg hl] at e; cases e
  | _ => cases e
/-- target = e (a tuple of targets) -/
def sAsg (a : DE) (g : DG) : DS := fun env => match a env with
  | .ok (.val d) e => match g d e with | some e2 => .nx e2 | none => .no
  | .ok _ _ => .no
  | .ex q e => .ex q e
  | .no => .no
theorem js_asg {tg e : Expr} {a : DE} {g : DG} {pos : Pos} (he : JE X ct c W false e a) (hg : JG X ct c tg g) (hs : swapsWithSole [tg] e pos.line X.env = pure false := by rfl) (hw : swappedStores [tg] e X.env = pure none := by rfl)
    (h1 : (assignEach [tg] X.env).map (·.2) = [assign tg X.env] := by rfl) : JS X ct c W (.Assign [tg] e pos) (sAsg a g) := by
  obtain ⟨t, p1, s1⟩ := he
  obtain ⟨u, p2, s2⟩ := hg
  refine ⟨_, ps_asg p1 p2 hs hw h1, fun G H env σ E r p => ?_⟩
  refine s1 G H env σ _ r ?_
  unfold sAsg at p
  cases ea : a env with
  | no => rw [ea] at p; exact p
  | ex q e1 => rw [ea] at p; exact fun G1 H1 cls dd s R h => p G1 H1 σ cls dd s.g R h
  | ok rv e1 =>
    rw [ea] at p
    cases rv with
    | slot i => exact p.elim
    | val d =>
      intro G1 H1 v s R h _
      dsimp only at p
      cases z : g d e1 with
      | none => rw [z] at p; exact p.elim
      | some e2 =>
        rw [z] at p
        exact s2 G1 H1 e1 e2 σ d v _ R h z fun σ' R' => p G1 H1 σ' s.g R'
end
end Dn

namespace Dn
open PySem PySem.Spec PyProof.Rows L2
/-! loops -/
inductive RI where
  | ok (xs : List D) (env : Env) | ex (x : Ex) (env : Env) | no
abbrev DI := Env → RI
structure ItR (K : PySem.W.Frag) (ct : Nat → Addr) (J : It) (xs : List D) (G : Hp) : Prop where
  go : ∀ i G' H, Same G G' → Same G' H → i < xs.length → J.go i H
  stop : ∀ G' H, Same G G' → Same G' H → J.stop xs.length H
  yld : ∀ i G' H x H', Same G G' → Same G' H → i < xs.length → J.yld i H x H' → ∃ d G'', xs[i]? = some d ∧ Grow G' H G'' H' ∧ RV K ct G'' d x
def PostI (K : PySem.W.Frag) (ct : Nat → Addr) (c : Cf) (W : WX) (G H : Hp) (σ : L2.St) (Rk : It → Hp → Prop) : RI → Prop
  | .ok xs env' => ∀ G' H' J, Stp c σ G H G' H' → Rel K ct c G' H' env' σ → ItR K ct J xs G' → Rk J H'
  | .ex x env' => ∀ G' H' cls dd, Stp c σ G H G' H' → Rel K ct c G' H' env' σ → RE K ct G' x cls dd → W cls dd σ H'
  | .no => False
def SimI (K : PySem.W.Frag) (ct : Nat → Addr) (c : Cf) (W : WX) (t : TI) (e : DI) : Prop := ∀ G H env σ Rk, Rel K ct c G H env σ → PostI K ct c W G H σ Rk (e env) → t σ H Rk
def JI (X : Cx) (ct : Nat → Addr) (c : Cf) (W : WX) (tg iter : Expr) (d : DI) : Prop := ∃ t, PI X tg iter t ∧ SimI X.K ct c W t d
def forL (g : DG) (b : DS) : List D → DS
  | [], env => .nx env
  | d :: r, env => match g d env with
    | none => .no
    | some e1 => match b e1 with
      | .nx e2 => forL g b r e2
      | .ct e2 => forL g b r e2
      | .bk e2 => .nx e2
      | .rt rv e2 => .rt rv e2
      | .rn d e2 => .rn d e2
      | .ex x e2 => .ex x e2
      | .no => .no
def sFor (it : DI) (g : DG) (b : DS) : DS := fun env => match it env with
  | .ok xs e => forL g b xs e
  | .ex q e => .ex q e
  | .no => .no
def whl (t : DT) (b : DS) : Nat → DS
  | 0, _ => .no
  | n + 1, env => match t env with
    | .ok true e1 => match b e1 with
      | .nx e2 => whl t b n e2
      | .ct e2 => whl t b n e2
      | .bk e2 => .nx e2
      | .rt rv e2 => .rt rv e2
      | .rn d e2 => .rn d e2
      | .ex x e2 => .ex x e2
      | .no => .no
    | .ok false e1 => .nx e1
    | .ex q e1 => .ex q e1
    | .no => .no
section
variable {X : Cx} {ct : Nat → Addr} {c : Cf} {W : WX}
theorem sim_for {K : PySem.W.Frag} {wi : TI} {g : TG} {tb : TS} {it : DI} {dg : DG} {b : DS} (hi : SimI K ct c W wi it) (hg : SimG K ct c g dg) (hb : SimS K ct c W tb b) : SimS K ct c W (tFor wi g tb) (sFor it dg b) := fun G H env σ E r p => by
  refine hi G H env σ _ r ?_
  unfold sFor at p
  cases ei : it env with
  | no => rw [ei] at p; exact p
  | ex q e => rw [ei] at p; exact fun G1 H1 cls dd s R h => p G1 H1 σ cls dd s.g R h
  | ok xs e0 =>
    rw [ei] at p
    intro G1 H1 J s1 R1 IT
    dsimp only at p
    refine ⟨fun i m σ H => ∃ G2 env2, m = xs.length - i ∧ i ≤ xs.length ∧ Same G1 G2 ∧ Rel K ct c G2 H env2 σ ∧ PostS K ct c W G2 E (forL dg b (xs.drop i) env2), ⟨xs.length, G1, e0, by simp, Nat.zero_le _, .refl _, R1, PostS.mono (by simpa using p) s1.g⟩, ?_⟩
    rintro i m σ2 H2 ⟨G2, env2, rfl, hle, s2, R2, p2⟩
    by_cases hlt : i < xs.length
    · refine .inr ⟨IT.go i G2 H2 s2 R2.sub hlt, fun σ' H' => ∃ G3 env3, Same G1 G3 ∧ Rel K ct c G3 H' env3 σ' ∧ PostS K ct c W G3 E (forL dg b (xs.drop (i + 1)) env3), fun σ' H' ⟨G3, env3, a1, a2, a3⟩ => ⟨xs.length - (i + 1), by omega, G3, env3, rfl, hlt, a1, a2, a3⟩, fun x H' hy => ?_⟩
      obtain ⟨d, G3, hd, gr, rv⟩ := IT.yld i G2 H2 x H' s2 R2.sub hlt hy
      have ed : xs.drop i = d :: xs.drop (i + 1) := by
        have h1 : xs[i] = d := by
          rw [List.getElem?_eq_getElem hlt] at hd; exact Option.some.inj hd
        rw [← h1]; exact List.drop_eq_getElem_cons hlt
      rw [ed] at p2
      unfold forL at p2
      cases eg : dg d env2 with
      | none => rw [eg] at p2; exact p2.elim
      | some e3 =>
        rw [eg] at p2
        dsimp only at p2
        refine hg G3 H' env2 e3 σ2 d x _ (R2.grow gr) rv eg fun σ3 R3 => ?_
        refine hb G3 H' e3 σ3 _ R3 ?_
        cases eb : b e3 with
        | no => rw [eb] at p2; exact p2
        | nx e4 => rw [eb] at p2; exact fun G4 H4 σ4 s4 R4 => ⟨G4, e4, (s2.trans gr.g).trans s4, R4, PostS.mono p2 (gr.g.trans s4)⟩
        | ct e4 => rw [eb] at p2; exact fun G4 H4 σ4 s4 R4 => ⟨G4, e4, (s2.trans gr.g).trans s4, R4, PostS.mono p2 (gr.g.trans s4)⟩
        | bk e4 => rw [eb] at p2; exact fun G4 H4 σ4 s4 R4 => p2 G4 H4 σ4 (gr.g.trans s4) R4
        | rt rv e4 => rw [eb] at p2; exact fun G4 H4 σ4 v s4 R4 h => p2 G4 H4 σ4 v (gr.g.trans s4) R4 h
        | rn rv e4 => rw [eb] at p2; exact fun G4 H4 σ4 v s4 R4 h k => p2 G4 H4 σ4 v (gr.g.trans s4) R4 h k
        | ex q e4 => rw [eb] at p2; exact fun G4 H4 σ4 cls dd s4 R4 h => p2 G4 H4 σ4 cls dd (gr.g.trans s4) R4 h
    · have e : i = xs.length := by omega
      subst e
      rw [List.drop_length] at p2
      unfold forL at p2
      exact .inl ⟨IT.stop G2 H2 s2 R2.sub, p2 G2 H2 σ2 (.refl _) R2⟩
theorem js_for {tg iter : Expr} {body : List Stmt} {it : DI} {dg : DG} {b : DS} {pos : Pos} (hp : PassesOwn (model X.prog X.w) X.A X.env X.xe) (hc : X.calm = true) (hi : JI X ct c W tg iter it) (hg : JG X ct c tg dg) (hb : JSs X ct c W body b)
    (hs : ∀ x, foldedSetIterable iter X.env x = pure x := by intro _; rfl) : JS X ct c W (.For tg iter body [] pos) (sFor it dg b) :=
  let ⟨_, p1, s1⟩ := hi; let ⟨_, p2, s2⟩ := hg; let ⟨_, p3, s3⟩ := hb; ⟨_, ps_for hp hc p1 p2 p3 hs, sim_for s1 s2 s3⟩
theorem sim_while {K : PySem.W.Frag} {tc : TT} {tb : TS} {t : DT} {b : DS} (n : Nat) (ht : SimT K ct c W tc t) (hb : SimS K ct c W tb b) : SimS K ct c W (tWhile tc tb) (whl t b n) := fun G H env σ E r p => by
  refine ⟨fun m σ H => ∃ G2 env2, Rel K ct c G2 H env2 σ ∧ PostS K ct c W G2 E (whl t b m env2), ⟨n, G, env, r, p⟩, ?_⟩
  rintro m σ2 H2 ⟨G2, env2, R2, p2⟩
  cases m with
  | zero => exact p2.elim
  | succ m =>
    refine ht G2 H2 env2 σ2 _ R2 ?_
    unfold whl at p2
    cases et : t env2 with
    | no => rw [et] at p2; exact p2
    | ex q e => rw [et] at p2; exact fun G1 H1 cls dd s R h => p2 G1 H1 σ2 cls dd s.g R h
    | ok k e1 =>
      rw [et] at p2
      cases k with
      | false => exact fun G1 H1 s R => iteF (p2 G1 H1 σ2 s.g R)
      | true =>
        intro G1 H1 s R
        dsimp only at p2
        refine iteT ⟨fun σ' H' => ∃ G3 env3, Rel K ct c G3 H' env3 σ' ∧ PostS K ct c W G3 E (whl t b m env3), fun σ' H' q => ⟨m, Nat.lt_succ_self _, q⟩, ?_⟩
        refine hb G1 H1 e1 σ2 _ R ?_
        cases eb : b e1 with
        | no => rw [eb] at p2; exact p2
        | nx e4 => rw [eb] at p2; exact fun G4 H4 σ4 s4 R4 => ⟨G4, e4, R4, PostS.mono p2 (s.g.trans s4)⟩
        | ct e4 => rw [eb] at p2; exact fun G4 H4 σ4 s4 R4 => ⟨G4, e4, R4, PostS.mono p2 (s.g.trans s4)⟩
        | bk e4 => rw [eb] at p2; exact fun G4 H4 σ4 s4 R4 => p2 G4 H4 σ4 (s.g.trans s4) R4
        | rt rv e4 => rw [eb] at p2; exact fun G4 H4 σ4 v s4 R4 h => p2 G4 H4 σ4 v (s.g.trans s4) R4 h
        | rn rv e4 => rw [eb] at p2; exact fun G4 H4 σ4 v s4 R4 h k => p2 G4 H4 σ4 v (s.g.trans s4) R4 h k
        | ex q e4 => rw [eb] at p2; exact fun G4 H4 σ4 cls dd s4 R4 h => p2 G4 H4 σ4 cls dd (s.g.trans s4) R4 h
theorem js_while (n : Nat) {t : Expr} {body : List Stmt} {dt : DT} {b : DS} {pos : Pos} (hp : PassesOwn (model X.prog X.w) X.A X.env X.xe) (ht : JT X ct c W t dt) (hb : JSs X ct c W body b) : JS X ct c W (.While t body [] pos) (whl dt b n) :=
  let ⟨_, p1, s1⟩ := ht; let ⟨_, p2, s2⟩ := hb; ⟨_, ps_while hp p1 p2, sim_while n s1 s2⟩
/-! what is walked -/
def iSeq (a : DE) : DI := fun env => match a env with
  | .ok (.val (.lst xs)) e => .ok xs e
  | .ok (.val (.fls xs)) e => .ok xs e
  | .ok _ _ => .no
  | .ex q e => .ex q e
  | .no => .no
def iTupl (a : DE) : DI := fun env => match a env with
  | .ok (.val (.tup xs)) e => .ok xs e
  | .ok _ _ => .no
  | .ex q e => .ex q e
  | .no => .no
theorem itl_ok {K : PySem.W.Frag} {p : Addr} {xs : List D} {vs : List V} {G : Hp} (h : SqL K G p vs) (r : RVs K ct G xs vs) : ItR K ct (Itl K p) xs G where
  go := fun i G' H s1 s2 hi => ⟨vs, vs[i]'(by rw [← r.len]; exact hi), (sql_same (s1.trans s2) h), by simp [show i < vs.length by rw [← r.len]; exact hi]⟩
  stop := fun G' H s1 s2 => ⟨vs, sql_same (s1.trans s2) h, by rw [r.len]; exact Nat.le_refl _⟩
  yld := fun i G' H x H' s1 s2 hi ⟨e, hy⟩ => by
    subst e
    obtain ⟨d, hd, rv⟩ := r.getV (hy vs (sql_same (s1.trans s2) h))
    exact ⟨d, G', hd, .refl s2, rv.mono s1⟩
theorem ji_list {tg l : Expr} {a : DE} (hl : JE X ct c W false l a) : JI X ct c W tg l (iSeq a) := by
  obtain ⟨t, p1, s1⟩ := hl
  refine ⟨_, pi_list p1, fun G H env σ Rk r p => ?_⟩
  refine s1 G H env σ _ r ?_
  unfold iSeq at p
  cases ea : a env with
  | no => rw [ea] at p; exact p
  | ex q e => rw [ea] at p; exact p
  | ok rv e1 =>
    rw [ea] at p
    intro G1 H1 v s R h _
    cases rv with
    | slot i => exact p.elim
    | val d =>
      cases h with
      | @lst q xs vs hq hv => exact ⟨q, rfl, ⟨vs, .inl (.inl (R.sub _ _ hq))⟩, p G1 H1 _ s R (itl_ok (.inl (.inl hq)) hv)⟩
      | @fls q xs vs hq hv => exact ⟨q, rfl, ⟨vs, sql_same R.sub hq⟩, p G1 H1 _ s R (itl_ok hq hv)⟩
      | _ => exact p.elim
theorem ji_tup {tg l : Expr} {a : DE} (hl : JE X ct c W false l a) : JI X ct c W tg l (iTupl a) := by
  obtain ⟨t, p1, s1⟩ := hl
  refine ⟨_, pi_tup p1, fun G H env σ Rk r p => ?_⟩
  refine s1 G H env σ _ r ?_
  unfold iTupl at p
  cases ea : a env with
  | no => rw [ea] at p; exact p
  | ex q e => rw [ea] at p; exact p
  | ok rv e1 =>
    rw [ea] at p
    intro G1 H1 v s R h _
    cases rv with
    | slot i => exact p.elim
    | val d =>
      cases h with
      | @tup q xs vs hq hv =>
        refine ⟨q, rfl, ⟨vs, .inl (.inl (R.sub _ _ hq))⟩, p G1 H1 _ s R ⟨fun i G' H s1 s2 hi => ?_, fun G' H s1 s2 => ?_, fun i G' H x H' s1 s2 hi ⟨e, hy⟩ => ?_⟩⟩
        · exact ⟨vs, vs[i]'(by rw [← hv.len]; exact hi), .inl (.inl (s2 _ _ (s1 _ _ hq))), by simp [show i < vs.length by rw [← hv.len]; exact hi]⟩
        · exact ⟨vs, .inl (.inl (s2 _ _ (s1 _ _ hq))), by rw [hv.len]; exact Nat.le_refl _⟩
        · subst e
          obtain ⟨d, hd, rv⟩ := hv.getV (hy vs (.inl (.inl (s2 _ _ (s1 _ _ hq)))))
          exact ⟨d, G', hd, .refl s2, rv.mono s1⟩
      | _ => exact p.elim
/-- lo, lo + st, .. n of them -/
def prog (lo st : Int) : Nat → List D
  | 0 => []
  | n + 1 => .int lo :: prog (lo + st) st n
theorem prog_len (st : Int) : ∀ (n : Nat) (lo : Int), (prog lo st n).length = n
  | 0, _ => rfl
  | n + 1, lo => by unfold prog; rw [List.length_cons, prog_len st n]
theorem prog_get (st : Int) : ∀ (n : Nat) (lo : Int) (i : Nat), i < n → (prog lo st n)[i]? = some (.int (lo + i * st))
  | 0, _, i, h => absurd h (Nat.not_lt_zero i)
  | n + 1, lo, 0, _ => by unfold prog; simp
  | n + 1, lo, i + 1, h => by
    unfold prog
    rw [List.getElem?_cons_succ, prog_get st n _ i (by omega)]
    congr 2
    rw [show ((i + 1 : Nat) : Int) = (i : Int) + 1 by omega, Int.add_mul, Int.one_mul]
    omega
theorem itr_ok {K : PySem.W.Frag} {G : Hp} {lo : Int} {n : Nat} : ItR K ct (Itr lo n) (prog lo 1 n) G where
  go := fun i G' H s1 s2 hi => by rw [prog_len] at hi; exact hi
  stop := fun G' H s1 s2 => by rw [prog_len]; exact Nat.le_refl _
  yld := fun i G' H x H' s1 s2 hi ⟨e, hy⟩ => by
    rw [prog_len] at hi
    subst e hy
    refine ⟨_, G', prog_get 1 n lo i hi, .refl s2, ?_⟩
    rw [Int.mul_one]; exact .int _
theorem itc_ok {K : PySem.W.Frag} {G : Hp} {lo st : Int} {n : Nat} : ItR K ct (Itc lo st n) (prog lo st n) G where
  go := fun i G' H s1 s2 hi => by rw [prog_len] at hi; exact hi
  stop := fun G' H s1 s2 => by rw [prog_len]; exact Nat.le_refl _
  yld := fun i G' H x H' s1 s2 hi ⟨e, hy⟩ => by
    rw [prog_len] at hi
    subst e hy
    exact ⟨_, G', prog_get st n lo i hi, .refl s2, .int _⟩
def iFn (g : List D → Option (List D)) (a : DA) : DI := fun env => match a env with
  | .ok xs e => match rds e xs with
    | some ds => match g ds with | some r => .ok r e | none => .no
    | none => .no
  | .ex q e => .ex q e
  | .no => .no
def big (i : Int) : Bool := decide (i.natAbs < 2 ^ 62)
theorem big_ok {i : Int} (h : big i = true) : -(2 ^ 62) ≤ i ∧ i < 2 ^ 62 := by
  have := of_decide_eq_true h
  omega
def range1 : List D → Option (List D)
  | [.int j] => if big j then some (prog 0 1 j.toNat) else none
  | _ => none
def range2 : List D → Option (List D)
  | [.int i, .int j] => if big i && big j then some (prog i 1 (j - i).toNat) else none
  | _ => none
def ItS (K : PySem.W.Frag) (ct : Nat → Addr) (r : List V → Hp → (It → Hp → Prop) → Prop) (g : List D → Option (List D)) : Prop := ∀ G H ds vs xs Rk, Same G H → RDs K ct G H ds vs → g ds = some xs → (∀ G' H' J, Grow G H G' H' → ItR K ct J xs G' → Rk J H') → r vs H Rk
theorem sim_iFn {K : PySem.W.Frag} {r : List V → Hp → (It → Hp → Prop) → Prop} {g : List D → Option (List D)} {ta : TA} {a : DA} (hs : ItS K ct r g) (ha : SimA K ct c W ta a) : SimI K ct c W (fun σ H R => ta σ H fun vs H1 => r vs H1 R) (iFn g a) := fun G H env σ Rk rel p => by
  refine ha G H env σ _ rel ?_
  unfold iFn at p
  cases ea : a env with
  | no => rw [ea] at p; exact p
  | ex q e1 => rw [ea] at p; exact p
  | ok x e1 =>
    rw [ea] at p
    intro G1 H1 v1 s1 R1 X1
    dsimp only at p
    cases z1 : rds e1 x with
    | none => rw [z1] at p; exact p.elim
    | some ds =>
      rw [z1] at p
      dsimp only at p
      cases z3 : g ds with
      | none => rw [z3] at p; exact p.elim
      | some d =>
        rw [z3] at p
        exact hs G1 H1 ds v1 d Rk R1.sub (X1.rds R1 z1) z3 fun G' H' J gr it => p G' H' J (s1.trans gr.stp) (R1.grow gr) it
theorem rds1 {K : PySem.W.Frag} {G H : Hp} {d : D} {vs : List V} (h : RDs K ct G H [d] vs) : ∃ v, vs = [v] ∧ RD K ct G H d v := by
  cases vs with
  | nil => exact h.elim
  | cons v vs => cases vs with
    | nil => exact ⟨v, rfl, h.1⟩
    | cons _ _ => exact h.2.elim
theorem rds2 {K : PySem.W.Frag} {G H : Hp} {d e : D} {vs : List V} (h : RDs K ct G H [d, e] vs) : ∃ v w, vs = [v, w] ∧ RD K ct G H d v ∧ RD K ct G H e w := by
  cases vs with
  | nil => exact h.elim
  | cons v vs =>
    obtain ⟨w, rfl, q⟩ := rds1 h.2
    exact ⟨v, w, rfl, h.1, q⟩
theorem rds3 {K : PySem.W.Frag} {G H : Hp} {d e f : D} {vs : List V} (h : RDs K ct G H [d, e, f] vs) : ∃ v w u, vs = [v, w, u] ∧ RD K ct G H d v ∧ RD K ct G H e w ∧ RD K ct G H f u := by
  cases vs with
  | nil => exact h.elim
  | cons v vs =>
    obtain ⟨w, u, rfl, q, q2⟩ := rds2 h.2
    exact ⟨v, w, u, rfl, h.1, q, q2⟩
theorem ji_range1 {tg a : Expr} {p pos : Pos} {d : DA} (hm : X.mg "range" = none) (ha : JA X ct c W [a] d) (hg : Gl X "range" := by rfl) (hs : starEach [a] X.env = [(false, eval a X.env)] := by rfl) : JI X ct c W tg (.Call (.Name "range" p) [a] [] pos) (iFn range1 d) := by
  obtain ⟨t, p1, s1⟩ := ha
  refine ⟨_, pi_range1 hg hm p1 hs, sim_iFn (r := fun vs H1 R => ∃ j : Int, vs = [.int j] ∧ -(2 ^ 62) ≤ j ∧ j < 2 ^ 62 ∧ R (Itr 0 j.toNat) H1) (fun G H ds vs xs Rk s h e k => ?_) s1⟩
  unfold range1 at e
  split at e
  · rename_i j
    split at e
    · rename_i hb
      cases e
      obtain ⟨v, rfl, q⟩ := rds1 h
      rw [q.int_inv]
      exact ⟨j, rfl, (big_ok hb).1, (big_ok hb).2, k G H _ (.refl s) itr_ok⟩
    · cases e
  · cases e
theorem ji_range2 {tg a b : Expr} {p pos : Pos} {d : DA} (hm : X.mg "range" = none) (ha : JA X ct c W [a, b] d) (hg : Gl X "range" := by rfl) (hs : starEach [a, b] X.env = [(false, eval a X.env), (false, eval b X.env)] := by rfl) (hs2 : starEach [b] X.env = [(false, eval b X.env)] := by rfl) : JI X ct c W tg (.Call (.Name "range" p) [a, b] [] pos) (iFn range2 d) := by
  obtain ⟨t, p1, s1⟩ := ha
  refine ⟨_, pi_range2 hg hm p1 hs hs2, sim_iFn (r := fun vs H1 R => ∃ i j : Int, vs = [.int i, .int j] ∧ (-(2 ^ 62) ≤ i ∧ i < 2 ^ 62 ∧ -(2 ^ 62) ≤ j ∧ j < 2 ^ 62) ∧ R (Itr i (j - i).toNat) H1) (fun G H ds vs xs Rk s h e k => ?_) s1⟩
  unfold range2 at e
  split at e
  · rename_i i j
    split at e
    · rename_i hb
      cases e
      obtain ⟨v, w, rfl, q, q2⟩ := rds2 h
      rw [q.int_inv, q2.int_inv]
      rw [Bool.and_eq_true] at hb
      exact ⟨i, j, rfl, ⟨(big_ok hb.1).1, (big_ok hb.1).2, (big_ok hb.2).1, (big_ok hb.2).2⟩, k G H _ (.refl s) itr_ok⟩
    · cases e
  · cases e
end
end Dn

namespace Dn
open PySem PySem.Spec PyProof.Rows L2
/-! functions -/
inductive FR where
  | ok (d : D) (o : D) | rn (d : D) (o : D) | ex (x : Ex) (o : D) | no
abbrev DF := List D → FR
def outOf (io : Bool) (env : Env) : D := match io with
  | true => (look env 0).getD .non
  | false => .non
def runF (n : Nat) (io : Bool) (b : DS) : DF := fun ds => match b (ds.map some ++ List.replicate (n - ds.length) none) with
  | .nx env => .ok .non (outOf io env)
  | .rt (.val d) env => .ok d (outOf io env)
  | .rt (.slot i) env => match io && i == 0 with
    | true => .no
    | false => match look env i with | some (.fz d) => .ok d (outOf io env) | some d => .rn d (outOf io env) | none => .no
  | .rn d env => .rn d (outOf io env)
  | .ex x env => .ex x (outOf io env)
  | .bk _ => .no
  | .ct _ => .no
  | .no => .no
def TupIn (G H : Hp) : Prop := ∀ p vs, H p = some (.tup vs) → G p = some (.tup vs)
structure Aft (G H : Hp) (iop : Option Addr) (G' H' : Hp) : Prop where
  g : Same G G'
  s : Same G' H'
  n : ∀ p o, G' p = some o → G p = some o ∨ H p = none
  h : ∀ p o, H p = some o → p ∉ iop.toList → H' p = some o
  t : TupIn G' H'
def IoOk (K : PySem.W.Frag) (ct : Nat → Addr) (G H : Hp) (iop : Option Addr) (o : D) : Prop := ∀ p, iop = some p → ROwn K ct G H o (.ref p)
def ArgR (K : PySem.W.Frag) (ct : Nat → Addr) (G H : Hp) (iop : Option Addr) (ds : List D) (vs : List V) : Bool → Prop
  | false => iop = none ∧ RVs K ct G ds vs
  | true => ∃ p d0 ds' vs', iop = some p ∧ ds = d0 :: ds' ∧ vs = .ref p :: vs' ∧ ROwn K ct G H d0 (.ref p) ∧ RVs K ct G ds' vs'
def PostF (K : PySem.W.Frag) (ct : Nat → Addr) (G H : Hp) (iop : Option Addr) (Q : VK) (E : XK) : FR → Prop
  | .ok d o => ∀ G' H' v, Aft G H iop G' H' → IoOk K ct G' H' iop o → RV K ct G' d v → Q v H'
  | .rn d o => ∀ G' H' v, Aft G H iop G' H' → IoOk K ct G' H' iop o → ROwn K ct G' H' d v → (∀ p, v = .ref p → H p = none) → Q v H'
  | .ex x o => ∀ G' H' cls dd, Aft G H iop G' H' → IoOk K ct G' H' iop o → RE K ct G' x cls dd → E cls dd H'
  | .no => False
def spF (K : PySem.W.Frag) (ct : Nat → Addr) (n : Nat) (io : Bool) (df : DF) : Sp := fun vs H Q E => ∃ (G : Hp) (ds : List D) (iop : Option Addr), (Same G H ∧ TupIn G H) ∧ ds.length = n ∧ ArgR K ct G H iop ds vs io ∧ PostF K ct G H iop Q E (df ds)
def ownOk (n : Nat) (io : Bool) (own : List Nat) : Bool := own.all (fun i => decide (n ≤ i) || (io && i == 0)) && (!io || own.contains 0)
section
variable {P : Program} {w : World} {K : PySem.W.Frag} {mg : Str → Option Value} {base : Heap} {ct : Nat → Addr}
theorem start_rel {G H : Hp} {iop : Option Addr} {ds : List D} {vs : List V} {io : Bool} {own : List Nat} {N : List Str} {n : Nat} (hs : Same G H) (ht : TupIn G H) (hn : ds.length = n) (ha : ArgR K ct G H iop ds vs io) (ho : ownOk n io own = true) (hN : n ≤ N.length) :
    Rel K ct ⟨own, H, G, iop, []⟩ G H (ds.map some ++ List.replicate (N.length - ds.length) none) (start N vs) := by
  unfold ownOk at ho
  rw [Bool.and_eq_true, List.all_eq_true] at ho
  obtain ⟨ho1, ho2⟩ := ho
  have lv : vs.length = ds.length := by
    cases io with
    | false => exact ha.2.len.symm
    | true => obtain ⟨p, d0, ds', vs', _, rfl, rfl, _, r⟩ := ha; rw [List.length_cons, List.length_cons, r.len]
  have iow : ∀ p, iop = some p → ∃ d0, ds[0]? = some d0 ∧ vs[0]? = some (.ref p) ∧ ROwn K ct G H d0 (.ref p) ∧ io = true := fun p hp => by
    cases io with
    | false => rw [ha.1] at hp; cases hp
    | true => obtain ⟨q, d0, ds', vs', e, rfl, rfl, r, _⟩ := ha; rw [e] at hp; cases hp; exact ⟨d0, rfl, rfl, r, rfl⟩
  have own_lt : ∀ i, i ∈ own → i < n → i = 0 ∧ io = true := fun i hi hl => by
    have q := ho1 i hi
    rw [Bool.or_eq_true] at q
    rcases q with q | q
    · have := of_decide_eq_true q; omega
    · rw [Bool.and_eq_true] at q; exact ⟨by simpa using q.2, q.1⟩
  have get1 : ∀ i, i < n → (ds.map some ++ List.replicate (N.length - ds.length) none)[i]? = (ds[i]?).map some := fun i hi => by
    rw [List.getElem?_append_left (by rw [List.length_map]; omega), List.getElem?_map]
  have get2 : ∀ i, i < n → (start N vs)[i]? = (vs[i]?).map some := fun i hi => by
    unfold L2.start
    rw [List.getElem?_append_left (by rw [List.length_map]; omega), List.getElem?_map]
  have get3 : ∀ i, ¬ i < n → ∀ d, (ds.map some ++ List.replicate (N.length - ds.length) (none : Option D))[i]? ≠ some (some d) := fun i hi d e => by
    rw [List.getElem?_append_right (by rw [List.length_map]; omega)] at e
    rw [List.getElem?_replicate] at e
    split at e <;> cases e
  have get4 : ∀ i, ¬ i < n → ∀ d, (start N vs)[i]? ≠ some (some d) := fun i hi d e => by
    unfold L2.start at e
    rw [List.getElem?_append_right (by rw [List.length_map]; omega)] at e
    rw [List.getElem?_replicate] at e
    split at e <;> cases e
  refine ⟨hs, fun p o e => .inl e, .refl _, fun p o e _ => e, fun p hp => ?_, ?_, fun i d e => ?_, fun i j p hi hj e1 e2 _ => ?_, fun i e => ?_, fun p hp => ?_, fun q hq => (nomatch hq), ht⟩
  · have : iop = some p := by
      unfold Cf.io at hp
      cases iop with
      | none => simp at hp
      | some q => simp at hp; rw [hp]
    obtain ⟨d0, _, _, r, _⟩ := iow p this
    obtain ⟨q, o, e, h, _⟩ := r.top
    cases e
    exact ⟨o, h⟩
  · unfold L2.start
    rw [List.length_append, List.length_append, List.length_map, List.length_map, List.length_replicate, List.length_replicate, lv]
  · by_cases hi : i < n
    · rw [get1 i hi] at e
      cases z : ds[i]? with
      | none => rw [z] at e; cases e
      | some d' =>
        rw [z] at e
        cases e
        have hiv : i < vs.length := by omega
        refine ⟨vs[i], ?_, fun hno => ?_, fun hyes => ?_⟩
        · rw [get2 i hi, List.getElem?_eq_getElem hiv]; rfl
        · cases io with
          | false =>
            obtain ⟨v, hv, r⟩ := ha.2.get z
            rw [List.getElem?_eq_getElem hiv] at hv
            cases hv
            exact r
          | true =>
            obtain ⟨p, d0, ds', vs', _, rfl, rfl, _, r⟩ := ha
            cases i with
            | zero => 
              rw [Bool.not_true, Bool.false_or] at ho2
              exact absurd (by simpa using ho2) hno
            | succ i =>
              obtain ⟨v, hv, r⟩ := r.get (i := i) (by simpa using z)
              have hiv' : i < vs'.length := by simpa using hiv
              rw [List.getElem?_eq_getElem hiv'] at hv
              cases hv
              simpa using r
        · obtain ⟨h0, hio⟩ := own_lt i hyes hi
          subst h0
          subst hio
          obtain ⟨p, d0, ds', vs', e1, rfl, rfl, r, _⟩ := ha
          cases z
          refine .inl ⟨r, fun q e => ?_⟩
          cases e
          right
          unfold Cf.io
          rw [e1]
          simp
    · exact absurd e (get3 i hi d)
  · have l1 : i < n := Decidable.byContradiction fun z => get4 i z _ e1
    have l2 : j < n := Decidable.byContradiction fun z => get4 j z _ e2
    rw [(own_lt i hi l1).1, (own_lt j hj l2).1]
  · by_cases hi : i < n
    · rw [get1 i hi] at e
      have : i < ds.length := by omega
      rw [List.getElem?_eq_getElem this] at e
      cases e
    · unfold L2.start
      rw [List.getElem?_append_right (by rw [List.length_map]; omega)] at e ⊢
      rw [List.length_map] at e ⊢
      rw [lv]
      rw [List.getElem?_replicate] at e ⊢
      split at e
      · rename_i hh; rw [if_pos hh]
      · cases e
  · obtain ⟨d0, z1, z2, r, hio⟩ := iow p hp
    subst hio
    rw [Bool.not_true, Bool.false_or] at ho2
    have h0 : 0 < n := by
      have := (List.getElem?_eq_some_iff.mp z1).1; omega
    refine ⟨by simpa using ho2, ?_, ?_⟩
    · rw [get2 0 h0, z2]
      rfl
    · obtain ⟨_, _, e, _, z⟩ := r.top
      cases e
      exact z
theorem fn_ok {x qual : Str} {st : Stmt} {f : Addr} {fd : FuncData} {N ps : List Str} {k n : Nat} {io : Bool} {own : List Nat} {b : DS} (F : Fun K x qual st f fd) (S : FnScope N ps (defScope st)) (hps : ps.length = n) (ho : ownOk n io own = true)
    (hb : ∀ (cdv : Value) (A : Around) (outer : List PySem.Env) (s : Shared) (H : Hp) (E : XK) (H0 G0 : Hp) (iop : Option Addr), Room k (A.deeper (envOfC qual (defScope st) s.heap.objs.size f cdv)) →
      JSs (cxOf (L2.CX P w) P w K mg base N qual (defScope st) f cdv A outer s H E) ct ⟨own, H0, G0, iop, []⟩ (fun cls d _ H => E cls d H) (defBody st) b) :
    FnOk P w K mg base (L2.CX P w) (k + 1) f fd ps (spF K ct n io (runF N.length io b)) := by
  have lens : ∀ vs H Q E, spF K ct n io (runF N.length io b) vs H Q E → vs.length = ps.length := fun vs H Q E ⟨G, ds, iop, _, hn, ha, _⟩ => by
    rw [hps, ← hn]
    cases io with
    | false => exact ha.2.len.symm
    | true => obtain ⟨p, d0, ds', vs', _, rfl, rfl, _, r⟩ := ha; rw [List.length_cons, List.length_cons, r.len]
  have hN : n ≤ N.length := by
    have := congrArg List.length S.pre
    rw [List.length_take] at this
    omega
  refine F.okX S lens (fun cdv A outer s H vs Q E hr h => ?_)
  obtain ⟨G, ds, iop, ⟨hs, ht⟩, hn, ha, hp⟩ := h
  obtain ⟨t, pt, sim⟩ := hb cdv A outer s H E H G iop hr
  refine ⟨t, pt, ?_⟩
  have R0 := start_rel (N := N) hs ht hn ha ho hN
  refine sim G H _ _ _ R0 ?_
  unfold runF at hp
  have aft : ∀ {G' H' : Hp} {env' : Env} {σ' : L2.St}, Rel K ct ⟨own, H, G, iop, []⟩ G' H' env' σ' → Aft G H iop G' H' := fun R => ⟨R.dn, R.sub, R.up, R.fr, R.tp⟩
  have ioo : ∀ {G' H' : Hp} {env' : Env} {σ' : L2.St}, Rel K ct ⟨own, H, G, iop, []⟩ G' H' env' σ' → IoOk K ct G' H' iop (outOf io env') := fun {G' H' env' σ'} R p hp' => by
    obtain ⟨h0, h1, gp⟩ := R.fix p hp'
    obtain ⟨d, hd⟩ := R.set_of h1
    obtain ⟨v, hv, _, q⟩ := R.slot 0 d hd
    rw [h1] at hv
    cases hv
    have hio : io = true := by
      cases io with
      | true => rfl
      | false => rw [ha.1] at hp'; cases hp'
    subst hio
    unfold outOf
    rw [look_of hd]
    rcases q h0 with ⟨q1, _⟩ | ⟨_, _, _, q1⟩
    · exact q1
    · obtain ⟨u, hu⟩ := q1 p rfl
      rw [gp] at hu; cases hu
  cases eb : b (ds.map some ++ List.replicate (N.length - ds.length) none) with
  | no => rw [eb] at hp; exact hp
  | bk e => rw [eb] at hp; exact hp.elim
  | ct e => rw [eb] at hp; exact hp.elim
  | nx e => rw [eb] at hp; exact fun G' H' σ' s' R => hp G' H' .non (aft R) (ioo R) .non
  | ex x e => rw [eb] at hp; exact fun G' H' σ' cls dd s' R h => hp G' H' cls dd (aft R) (ioo R) h
  | rn d e => rw [eb] at hp; exact fun G' H' σ' v s' R h hn => hp G' H' v (aft R) (ioo R) h hn
  | rt rv e =>
    rw [eb] at hp
    cases rv with
    | val d => exact fun G' H' σ' v s' R h => hp G' H' v (aft R) (ioo R) h
    | slot i =>
      intro G' H' σ' v s' R h
      dsimp only at hp
      obtain ⟨ho', hσ⟩ := h
      cases zio : io && i == 0 with
      | true => rw [zio] at hp; exact hp.elim
      | false =>
        rw [zio] at hp
        dsimp only at hp
        cases zl : look e i with
        | none => rw [zl] at hp; exact hp.elim
        | some d =>
          rw [zl] at hp
          obtain ⟨v', hv', _, q⟩ := R.slot i d (of_look zl)
          rw [hσ] at hv'
          cases hv'
          rcases q ho' with ⟨q1, q2⟩ | ⟨d2, e2, q1, _⟩
          rotate_left
          · subst e2
            exact hp G' H' v (aft R) (ioo R) q1
          have hp : PostF K ct G H iop Q E (.rn d (outOf io e)) := by
            cases d with
            | fz d2 => exact q1.elim
            | _ => exact hp
          refine hp G' H' v (aft R) (ioo R) q1 fun p e => ?_
          rcases q2 p e with z | z
          · exact z
          · exfalso
            have hio : iop = some p := by
              unfold Cf.io at z
              cases iop with
              | none => simp at z
              | some u => simp at z; rw [z]
            obtain ⟨h0, h1, gp⟩ := R.fix p hio
            rw [e] at hσ
            have i0 := R.dis i 0 p ho' h0 hσ h1 gp
            subst i0
            have : io = true := by
              cases io with
              | true => rfl
              | false => rw [ha.1] at hio; cases hio
            subst this
            simp at zio
end
/-! calls -/
def dCall (df : DF) (a : DA) : DE := fun env => match a env with
  | .ok rvs e1 => match clean rvs with
    | some ds => match df ds with
      | .ok d _ => .ok (.val d) e1
      | .rn d _ => .ok (.val d) e1
      | .ex x _ => .ex x e1
      | .no => .no
    | none => .no
  | .ex q e1 => .ex q e1
  | .no => .no
def dCallN (df : DF) (a : DA) : DE := fun env => match a env with
  | .ok rvs e1 => match clean rvs with
    | some ds => match df ds with
      | .ok _ _ => .no
      | .rn d _ => .ok (.val d) e1
      | .ex x _ => .ex x e1
      | .no => .no
    | none => .no
  | .ex q e1 => .ex q e1
  | .no => .no
def dCallIO (df : DF) (a : DA) : DE := fun env => match a env with
  | .ok (.slot i :: rvs) e1 => match clean rvs with
    | some ds => match look e1 i with
      | some (.fz _) => .no
      | some d0 => match df (d0 :: ds) with
        | .ok d o => .ok (.val d) (e1.set i (some o))
        | .rn d o => .ok (.val d) (e1.set i (some o))
        | .ex x o => .ex x (e1.set i (some o))
        | .no => .no
      | none => .no
    | none => .no
  | .ok _ _ => .no
  | .ex q e1 => .ex q e1
  | .no => .no
def tCallF (sp : Sp) (E : L2.St → XK) (t : TA) : TE := fun σ H Q => t σ H fun vs H1 => sp vs H1 Q (E σ)
section
variable {X : Cx} {ct : Nat → Addr} {c : Cf} {W : WX}
theorem Aft.grow {G H G' H' : Hp} (a : Aft G H none G' H') : Grow G H G' H' := ⟨a.g, fun p o e => a.h p o e (by simp), a.s, a.n, fun p vs h => .inr (a.t p vs h)⟩
theorem sim_call {K : PySem.W.Frag} {n : Nat} {df : DF} {ta : TA} {a : DA} (hn : ∀ env rvs e1, a env = .ok rvs e1 → rvs.length = n) (ha : SimA K ct c W ta a) : SimE K ct c W false (tCallS (spF K ct n false df) (WE W) ta) (dCall df a) := fun G H env σ Q rel p => by
  refine ha G H env σ _ rel ?_
  unfold dCall at p
  cases ea : a env with
  | no => rw [ea] at p; exact p
  | ex q e1 => rw [ea] at p; exact p
  | ok rvs e1 =>
    rw [ea] at p
    intro G1 H1 vs s1 R1 X1
    dsimp only at p
    cases z1 : clean rvs with
    | none => rw [z1] at p; exact p.elim
    | some ds =>
      rw [z1] at p
      dsimp only at p
      have rv := clean_rvs X1 z1
      have hl : ds.length = n := by
        rw [rv.len, ← hn env rvs e1 ea]
        clear p z1 rv ea
        induction X1 with
        | nil => rfl
        | cons _ _ ih => rw [List.length_cons, List.length_cons, ih]
      refine ⟨G1, ds, none, ⟨R1.sub, R1.tp⟩, hl, ⟨rfl, rv⟩, ?_⟩
      cases zf : df ds with
      | no => rw [zf] at p; exact p
      | ok d o => rw [zf] at p; exact fun G' H' v af _ h => p G' H' v (s1.trans af.grow.stp) (R1.grow af.grow) h (fun z => nomatch z)
      | ex x o => rw [zf] at p; exact fun G' H' cls dd af _ h => p G' H' cls dd (s1.trans af.grow.stp) (R1.grow af.grow) h
      | rn d o =>
        rw [zf] at p
        intro G' H' v af _ h hf
        obtain ⟨q, ob, rfl, hp, hg⟩ := h.top
        have gr := af.grow.frz (hf q rfl) hp hg
        exact p _ H' _ (s1.trans gr.stp) (R1.grow gr) (own_frz h hp) (fun z => nomatch z)
theorem sim_callN {K : PySem.W.Frag} {n : Nat} {df : DF} {ta : TA} {a : DA} (hn : ∀ env rvs e1, a env = .ok rvs e1 → rvs.length = n) (ha : SimA K ct c W ta a) : SimE K ct c W true (tCallS (spF K ct n false df) (WE W) ta) (dCallN df a) := fun G H env σ Q rel p => by
  refine ha G H env σ _ rel ?_
  unfold dCallN at p
  cases ea : a env with
  | no => rw [ea] at p; exact p
  | ex q e1 => rw [ea] at p; exact p
  | ok rvs e1 =>
    rw [ea] at p
    intro G1 H1 vs s1 R1 X1
    dsimp only at p
    cases z1 : clean rvs with
    | none => rw [z1] at p; exact p.elim
    | some ds =>
      rw [z1] at p
      dsimp only at p
      have rv := clean_rvs X1 z1
      have hl : ds.length = n := by
        rw [rv.len, ← hn env rvs e1 ea]
        clear p z1 rv ea
        induction X1 with
        | nil => rfl
        | cons _ _ ih => rw [List.length_cons, List.length_cons, ih]
      refine ⟨G1, ds, none, ⟨R1.sub, R1.tp⟩, hl, ⟨rfl, rv⟩, ?_⟩
      cases zf : df ds with
      | no => rw [zf] at p; exact p
      | ok d o => rw [zf] at p; exact p.elim
      | ex x o => rw [zf] at p; exact fun G' H' cls dd af _ h => p G' H' cls dd (s1.trans af.grow.stp) (R1.grow af.grow) h
      | rn d o =>
        rw [zf] at p
        intro G' H' v af _ h hf
        exact p G' H' v (s1.trans af.grow.stp) (R1.grow af.grow) h (fun _ q e => rel.back s1 R1 (hf q e))
/-- behind a call that changed the own object of slot i -/
theorem Rel.io {K : PySem.W.Frag} {G H G' H' : Hp} {env : Env} {σ : L2.St} {i : Nat} {q : Addr} {o : D} (r : Rel K ct c G H env σ) (hi : i ∈ c.own) (hσ : σ[i]? = some (some (.ref q))) (af : Aft G H (some q) G' H') (hv : ROwn K ct G' H' o (.ref q)) : Rel K ct c G' H' (env.set i (some o)) σ ∧ Stp c σ G H G' H' := by
  obtain ⟨d0, hd0⟩ := r.set_of hσ
  obtain ⟨v0, hv0, _, q0⟩ := r.slot i d0 hd0
  rw [hσ] at hv0; cases hv0
  obtain ⟨q1, q2⟩ : (∃ d, ROwn K ct G H d (.ref q)) ∧ ∀ p, V.ref q = .ref p → c.H0 p = none ∨ p ∈ c.io := by
    rcases q0 hi with ⟨q1, q2⟩ | ⟨_, _, _, q2⟩
    · exact ⟨⟨_, q1⟩, q2⟩
    · obtain ⟨u, hu⟩ := q2 q rfl
      obtain ⟨_, _, e, z1, z2⟩ := hv.top
      cases e
      rw [af.g _ _ hu] at z2; cases z2
  obtain ⟨hq, gq⟩ : (∃ u, H q = some u) ∧ G q = none := by obtain ⟨_, q1⟩ := q1; obtain ⟨_, u, e, z1, z2⟩ := q1.top; cases e; exact ⟨⟨u, z1⟩, z2⟩
  have hl : i < env.length := (List.getElem?_eq_some_iff.mp hd0).1
  have keep : ∀ b x, b ≠ q → H b = some x → H' b = some x := fun b x hb e => af.h b x e (by simpa using hb)
  refine ⟨⟨af.s, fun p u e => ?_, r.dn.trans af.g, fun b x e hb => ?_, fun b hb => ?_, by rw [List.length_set]; exact r.len, fun j d' e => ?_, fun a b p ha hb e1 e2 gp => r.dis a b p ha hb e1 e2 (af.g.free gp), fun j e => ?_, fun p hp => ?_, r.pin, af.t⟩, af.g, fun p u e h => keep p u (fun z => by subst z; exact h i hi hσ) e, fun p u e => (af.n p u e).elim .inl fun z => .inr (.inl z)⟩
  · rcases af.n p u e with z | z
    · exact r.up p u z
    · exact .inr (r.h0 z)
  · by_cases z : b = q
    · subst z
      rcases q2 _ rfl with y | y
      · rw [y] at e; cases e
      · exact absurd y hb
    · exact keep b x z (r.fr b x e hb)
  · by_cases z : b = q
    · subst z
      obtain ⟨_, u, e, z1, _⟩ := hv.top
      cases e
      exact ⟨u, z1⟩
    · obtain ⟨u, hu⟩ := r.ioH b hb
      exact ⟨u, keep b u z hu⟩
  · by_cases hj : i = j
    · subst hj
      rw [List.getElem?_set_self hl] at e
      cases e
      exact ⟨_, hσ, fun z => absurd hi z, fun _ => .inl ⟨hv, q2⟩⟩
    · rw [List.getElem?_set_ne hj] at e
      obtain ⟨v, e1, a1, a2⟩ := r.slot j d' e
      refine ⟨v, e1, fun z => (a1 z).mono af.g, fun hjo => ?_⟩
      rcases a2 hjo with ⟨b1, b2⟩ | ⟨d2, e2, b1, b2⟩
      · obtain ⟨p', o', rfl, hp', hg'⟩ := b1.top
        have ne : p' ≠ q := fun z => by subst z; exact hj (r.dis i j _ hi hjo hσ e1 hg')
        refine .inl ⟨b1.step af.g (fun u hu => keep p' u ne hu) ?_, b2⟩
        cases z : G' p' with
        | none => rfl
        | some u =>
          rcases af.n p' u z with y | y
          · rw [hg'] at y; cases y
          · rw [hp'] at y; cases y
      · exact .inr ⟨d2, e2, b1.mono af.g, fun p e => let ⟨u, hu⟩ := b2 p e; ⟨u, af.g _ _ hu⟩⟩
  · by_cases hj : i = j
    · subst hj
      rw [List.getElem?_set_self hl] at e; cases e
    · rw [List.getElem?_set_ne hj] at e
      exact r.un j e
  · obtain ⟨x1, x2, x3⟩ := r.fix p hp
    refine ⟨x1, x2, ?_⟩
    cases z : G' p with
    | none => rfl
    | some u =>
      rcases af.n p u z with y | y
      · rw [x3] at y; cases y
      · obtain ⟨w, hw⟩ := r.ioH p (by unfold Cf.io; rw [hp]; simp)
        rw [hw] at y; cases y
theorem sim_callIO {K : PySem.W.Frag} {n : Nat} {df : DF} {ta : TA} {a : DA} (hn : ∀ env rvs e1, a env = .ok rvs e1 → rvs.length = n) (ha : SimA K ct c W ta a) : SimE K ct c W false (tCallS (spF K ct n true df) (WE W) ta) (dCallIO df a) := fun G H env σ Q rel p => by
  refine ha G H env σ _ rel ?_
  unfold dCallIO at p
  cases ea : a env with
  | no => rw [ea] at p; exact p
  | ex q e1 => rw [ea] at p; exact p
  | ok rvs e1 =>
    rw [ea] at p
    intro G1 H1 vs s1 R1 X1
    have hlen : vs.length = n := by
      rw [← hn env rvs e1 ea]
      clear p ea
      induction X1 with
      | nil => rfl
      | cons _ _ ih => rw [List.length_cons, List.length_cons, ih]
    cases X1 with
    | nil => exact p.elim
    | @cons r v rs vs' x1 xr =>
      cases r with
      | val d => exact p.elim
      | slot i =>
        dsimp only at p
        obtain ⟨hi, hσ⟩ := x1
        cases z1 : clean rs with
        | none => rw [z1] at p; exact p.elim
        | some ds =>
          rw [z1] at p
          dsimp only at p
          have rv := clean_rvs xr z1
          cases zl : look e1 i with
          | none => rw [zl] at p; exact p.elim
          | some d0 =>
            rw [zl] at p
            try dsimp only at p
            obtain ⟨v0, hv0, _, q0⟩ := R1.slot i d0 (of_look zl)
            rw [hσ] at hv0; cases hv0
            obtain ⟨q1, q2⟩ : ROwn K ct G1 H1 d0 v ∧ ∀ p, v = .ref p → c.H0 p = none ∨ p ∈ c.io := by
              rcases q0 hi with z | ⟨d2, e2, _⟩
              · exact z
              · subst e2; exact p.elim
            have p : PostE K ct c W false G H σ Q (match df (d0 :: ds) with
              | .ok d o => .ok (.val d) (e1.set i (some o))
              | .rn d o => .ok (.val d) (e1.set i (some o))
              | .ex x o => .ex x (e1.set i (some o))
              | .no => .no) := by
              cases d0 with
              | fz d2 => exact q1.elim
              | _ => exact p
            obtain ⟨q, u, rfl, hq, gq⟩ := q1.top
            refine ⟨G1, d0 :: ds, some q, ⟨R1.sub, R1.tp⟩, by rw [List.length_cons, rv.len, ← hlen, List.length_cons], ⟨q, d0, ds, vs', rfl, rfl, rfl, q1, rv⟩, ?_⟩
            cases zf : df (d0 :: ds) with
            | no => rw [zf] at p; exact p
            | ok d o =>
              rw [zf] at p
              intro G' H' v af io h
              obtain ⟨R2, s2⟩ := R1.io hi hσ af (io q rfl)
              exact p G' H' v (s1.trans s2) R2 h (fun z => nomatch z)
            | ex x o =>
              rw [zf] at p
              intro G' H' cls dd af io h
              obtain ⟨R2, s2⟩ := R1.io hi hσ af (io q rfl)
              exact p G' H' cls dd (s1.trans s2) R2 h
            | rn d o =>
              rw [zf] at p
              intro G' H' v af io h hf
              obtain ⟨q', ob, rfl, hp, hg⟩ := h.top
              have hq' := hf q' rfl
              have nq : q' ≠ q := fun z => by subst z; rw [hq] at hq'; cases hq'
              have sm : Same G' (upd G' q' ob) := fun b x e => by rw [upd_ne (ne_of_none e hg)]; exact e
              have af2 : Aft G1 H1 (some q) (upd G' q' ob) H' := ⟨af.g.trans sm, fun b x e => by
                by_cases hb : b = q'
                · subst hb; rw [upd_same] at e; cases e; exact hp
                · rw [upd_ne hb] at e; exact af.s _ _ e, fun b x e => by
                by_cases hb : b = q'
                · subst hb; exact .inr hq'
                · rw [upd_ne hb] at e; exact af.n _ _ e, af.h, fun b vs e => sm _ _ (af.t b vs e)⟩
              have io2 : ROwn K ct (upd G' q' ob) H' o (.ref q) := (io q rfl).step sm (fun _ z => z) (by
                rw [upd_ne (Ne.symm nq)]
                obtain ⟨_, _, e, _, z⟩ := (io q rfl).top
                cases e
                exact z)
              obtain ⟨R2, s2⟩ := R1.io hi hσ af2 io2
              exact p _ H' _ (s1.trans s2) R2 (own_frz h hp) (fun z => nomatch z)
def ALen (a : DA) (n : Nat) : Prop := ∀ env rvs e1, a env = .ok rvs e1 → rvs.length = n
theorem alen_nil : ALen aNil 0 := fun env rvs e1 h => by cases h; rfl
theorem alen_cons {d : DE} {a : DA} {n : Nat} (h : ALen a n) : ALen (aCons d a) (n + 1) := fun env rvs e1 q => by
  unfold aCons at q
  cases ea : d env with
  | no => rw [ea] at q; cases q
  | ex x e => rw [ea] at q; cases q
  | ok r e =>
    rw [ea] at q
    dsimp only at q
    cases eb : a e with
    | no => rw [eb] at q; cases q
    | ex x e => rw [eb] at q; cases q
    | ok rs e2 => rw [eb] at q; cases q; rw [List.length_cons, h _ _ _ eb]
theorem je_call {k n : Nat} {fa : Addr} {fd : FuncData} {ps : List Str} {df : DF} {x : Str} {e : Expr} {es : List Expr} {a : DA} {p pos : Pos} (F : FnOk X.prog X.w X.K X.mg X.base (L2.CX X.prog X.w) k fa fd ps (spF X.K ct n false df)) (hr : Room k X.A) (hm : X.mg x = some (.ref fa)) (hk : PySem.W.keepIn X.K (.ref fa) = true) (hb : Binds X.K fd ps []) (tk : Takes X W)
    (ha : JA X ct c W (e :: es) a) (hn : ALen a n) (hg : Gl X x := by rfl) (hdb : (x == ("__debug__" : Str)) = false := by decide) (he : starEach (e :: es) X.env = (false, eval e X.env) :: starEach es X.env := by rfl) (hpl : (backTo pos (starEach es X.env)).any (·.1) = false := by rfl) :
    JE X ct c W false (.Call (.Name x p) (e :: es) [] pos) (dCall df a) := let ⟨_, p1, s1⟩ := ha; ⟨_, pe_callS F hr hg hm hk hb (fun σ => passAt tk σ) p1 hdb he hpl, sim_call hn s1⟩
theorem je_callN {k n : Nat} {fa : Addr} {fd : FuncData} {ps : List Str} {df : DF} {x : Str} {e : Expr} {es : List Expr} {a : DA} {p pos : Pos} (F : FnOk X.prog X.w X.K X.mg X.base (L2.CX X.prog X.w) k fa fd ps (spF X.K ct n false df)) (hr : Room k X.A) (hm : X.mg x = some (.ref fa)) (hk : PySem.W.keepIn X.K (.ref fa) = true) (hb : Binds X.K fd ps []) (tk : Takes X W)
    (ha : JA X ct c W (e :: es) a) (hn : ALen a n) (hg : Gl X x := by rfl) (hdb : (x == ("__debug__" : Str)) = false := by decide) (he : starEach (e :: es) X.env = (false, eval e X.env) :: starEach es X.env := by rfl) (hpl : (backTo pos (starEach es X.env)).any (·.1) = false := by rfl) :
    JE X ct c W true (.Call (.Name x p) (e :: es) [] pos) (dCallN df a) := let ⟨_, p1, s1⟩ := ha; ⟨_, pe_callS F hr hg hm hk hb (fun σ => passAt tk σ) p1 hdb he hpl, sim_callN hn s1⟩
theorem je_callIO {k n : Nat} {fa : Addr} {fd : FuncData} {ps : List Str} {df : DF} {x : Str} {e : Expr} {es : List Expr} {a : DA} {p pos : Pos} (F : FnOk X.prog X.w X.K X.mg X.base (L2.CX X.prog X.w) k fa fd ps (spF X.K ct n true df)) (hr : Room k X.A) (hm : X.mg x = some (.ref fa)) (hk : PySem.W.keepIn X.K (.ref fa) = true) (hb : Binds X.K fd ps []) (tk : Takes X W)
    (ha : JA X ct c W (e :: es) a) (hn : ALen a n) (hg : Gl X x := by rfl) (hdb : (x == ("__debug__" : Str)) = false := by decide) (he : starEach (e :: es) X.env = (false, eval e X.env) :: starEach es X.env := by rfl) (hpl : (backTo pos (starEach es X.env)).any (·.1) = false := by rfl) :
    JE X ct c W false (.Call (.Name x p) (e :: es) [] pos) (dCallIO df a) := let ⟨_, p1, s1⟩ := ha; ⟨_, pe_callS F hr hg hm hk hb (fun σ => passAt tk σ) p1 hdb he hpl, sim_callIO hn s1⟩
end
end Dn

namespace Dn
open PySem PySem.Spec PyProof.Rows L2
/-! operators on data -/
def mulOk (i j : Int) : Bool := (decide (i.natAbs < 2 ^ 60) || decide (j.natAbs < 2 ^ 60)) || (decide (i.natAbs < 2 ^ 4000) && decide (j.natAbs < 2 ^ 4000))
def divOk (j : Int) : Bool := decide (0 < j) && decide (j.natAbs < 2 ^ 4000)
def gAdd : D → D → Option D
  | .int i, .int j => some (.int (i + j))
  | .lst xs, .lst ys => if xs.length + ys.length ≤ 1000000 then some (.lst (xs ++ ys)) else none
  | .str x, .str y => if x.length + y.length ≤ 1000000 then some (.str (x ++ y)) else none
  | .tup xs, .tup ys => if xs.length + ys.length ≤ 1000000 then some (.tup (xs ++ ys)) else none
  | _, _ => none
def gSubt : D → D → Option D
  | .int i, .int j => some (.int (i - j))
  | _, _ => none
def gMul : D → D → Option D
  | .int i, .int j => if mulOk i j then some (.int (i * j)) else none
  | .lst xs, .int j => if decide (0 ≤ j) && decide (j ≤ 1000000) && decide (xs.length * j.toNat ≤ 1000000) then some (.lst (List.replicate j.toNat xs).flatten) else none
  | _, _ => none
def gDiv : D → D → Option D
  | .int i, .int j => if divOk j then some (.int (i / j)) else none
  | _, _ => none
def gMod : D → D → Option D
  | .int i, .int j => if decide (0 < j) then some (.int (i % j)) else none
  | _, _ => none
def gPow : D → D → Option D
  | .int i, .int j => if decide (0 ≤ j) && decide (j ≤ 1000000) && decide (i.natAbs < 2 ^ 64) then some (.int (i ^ j.toNat)) else none
  | _, _ => none
def gNeg : D → Option D
  | .int i => some (.int (-i))
  | _ => none
def gLt : D → D → Option D
  | .int i, .int j => some (.bl (decide (i < j)))
  | _, _ => none
def gLe : D → D → Option D
  | .int i, .int j => some (.bl (decide (i ≤ j)))
  | _, _ => none
def gGt : D → D → Option D
  | .int i, .int j => some (.bl (decide (j < i)))
  | _, _ => none
def gGe : D → D → Option D
  | .int i, .int j => some (.bl (decide (j ≤ i)))
  | _, _ => none
mutual
def toPy : D → Option PyData
  | .non => some .none
  | .bl b => some (.bool b)
  | .int i => some (.int i)
  | .str x => some (.str x)
  | .tup xs => (toPys xs).map PyData.tuple
  | .lst xs => (toPys xs).map PyData.list
  | .fls xs => (toPys xs).map PyData.list
  | .dK _ => none
  | .dT _ => none
  | .obj _ _ => none
  | .fz _ => none
  | .opq _ => none
  | .exc _ _ _ => none
def toPys : List D → Option (List PyData)
  | [] => some []
  | x :: xs => match toPy x, toPys xs with
    | some a, some b => some (a :: b)
    | _, _ => none
end
def gEqB (x y : D) : Option Bool := match toPy x, toPy y with
  | some a, some b => if SeqAt.shaped a && SeqAt.shaped b then some (PyData.eqv a b) else none
  | _, _ => none
def gEq (x y : D) : Option D := (gEqB x y).map D.bl
def gNe (x y : D) : Option D := (gEqB x y).map fun b => D.bl (!b)
def isNon : D → Bool
  | .non => true
  | _ => false
def gIsN (x y : D) : Option D := match y with
  | .non => some (.bl (isNon x))
  | .bl b => match x with | .bl a => some (.bl (decide (a = b))) | _ => none
  | _ => none
def gNotN (x y : D) : Option D := match y with
  | .non => some (.bl (!isNon x))
  | .bl b => match x with | .bl a => some (.bl (!decide (a = b))) | _ => none
  | _ => none
def flatD : D → Option V
  | .non => some .non
  | .bl b => some (.bl b)
  | .int i => some (.int i)
  | .str x => some (.str x)
  | _ => none
def flats : List D → Option (List V)
  | [] => some []
  | x :: xs => match flatD x, flats xs with
    | some a, some b => some (a :: b)
    | _, _ => none
def gInB (x y : D) : Option Bool := match flatD x, (match y with | .lst xs => flats xs | .tup xs => flats xs | .fls xs => flats xs | _ => none) with
  | some a, some b => some (inV a b)
  | _, _ => none
def gIn (x y : D) : Option D := (gInB x y).map D.bl
def gNotIn (x y : D) : Option D := (gInB x y).map fun b => D.bl (!b)
def gIx : D → D → Option D
  | .lst xs, .int i => atI xs i
  | .tup xs, .int i => atI xs i
  | .fls xs, .int i => atI xs i
  | .str z, .int i => if z.length ≤ 1000000 then (atI z.cps.toList i).map fun c => D.str ⟨#[c]⟩ else none
  | _, _ => none
section
variable {K : PySem.W.Frag} {ct : Nat → Addr}
theorem atI_rv {G : Hp} {xs : List D} {vs : List V} {i : Int} {d : D} (r : RVs K ct G xs vs) (h : atI xs i = some d) : ∃ v, atI vs i = some v ∧ RV K ct G d v := by
  unfold atI at h ⊢
  rw [← r.len]
  cases e : ixN xs.length i with
  | none => rw [e] at h; cases h
  | some j => rw [e] at h; exact r.get h
theorem mul_ok {i j : Int} (h : mulOk i j = true) : CMul i j ∨ CMulW i j := by
  unfold mulOk at h
  rw [Bool.or_eq_true, Bool.or_eq_true, Bool.and_eq_true] at h
  rcases h with (h | h) | ⟨h1, h2⟩
  · have := of_decide_eq_true h
    refine .inl (.inl ⟨?_, ?_⟩) <;> omega
  · have := of_decide_eq_true h
    refine .inl (.inr ⟨?_, ?_⟩) <;> omega
  · exact .inr (wide_mul (of_decide_eq_true h1) (of_decide_eq_true h2) (by decide) (by decide) (by decide))
theorem div_ok {i j : Int} (h : divOk j = true) : CDivW i j := by
  unfold divOk at h
  rw [Bool.and_eq_true] at h
  exact wide_div (of_decide_eq_true h.1) (of_decide_eq_true h.2) (by decide) (by decide)
def rAddA (K : PySem.W.Frag) : R2 := fun x y H Q => (rI0 (fun i j => .int (i + j)) x y H Q ∨ rCat x y H Q) ∨ (∃ i j, x = .str i ∧ y = .str j ∧ i.length + j.length ≤ sizeLine ∧ Q (.str (i ++ j)) H) ∨ rCatA K x y H Q
theorem op_addA {X : Cx} : OpR X (binaryOp .Add) (rAddA X.K) := OpR.or (OpR.or op_add op_cat) (OpR.or op_add_str op_catA)
theorem os_add : OpS K ct false (rAddA K) gAdd := fun G H dx dy x y d Q s r1 r2 e o => by
  unfold gAdd at e
  split at e
  · cases e; exact .inl (.inl ⟨_, _, r1.int_inv, r2.int_inv, o.val s (.int _)⟩)
  · split at e
    · rename_i hl
      cases e
      obtain ⟨p, vs, rfl, hp, rv⟩ := r1.lst_inv s
      obtain ⟨q, us, rfl, hq, ru⟩ := r2.lst_inv s
      exact .inl (.inr ⟨p, q, vs, us, rfl, rfl, hp, hq, by rw [← rv.len, ← ru.len]; exact Nat.le_trans hl million, fun a ha => o.frz.newL s ha (rv.append ru)⟩)
    · cases e
  · split at e
    · rename_i hl
      cases e
      exact .inr (.inl ⟨_, _, r1.str_inv, r2.str_inv, Nat.le_trans hl million, o.val s (.str _)⟩)
    · cases e
  · split at e
    · rename_i hl
      cases e
      obtain ⟨p, vs, rfl, hp, gp, rv⟩ := r1.tup_inv s
      obtain ⟨q, us, rfl, hq, gq, ru⟩ := r2.tup_inv s
      refine .inr (.inr ⟨p, q, vs, us, rfl, rfl, SqT.of hp, SqT.of hq, by rw [← rv.len, ← ru.len]; exact Nat.le_trans hl million, fun z => ?_, fun _ z => ?_, fun _ _ a ha => o.newT s ha (rv.append ru)⟩)
      · subst z
        cases rv
        exact o.val s (.tup gq ru)
      · subst z
        cases ru
        rw [List.append_nil] at o
        exact o.val s (.tup gp rv)
    · cases e
  · cases e
def gCat : D → D → Option D
  | .lst xs, .lst ys => if xs.length + ys.length ≤ 1000000 then some (.lst (xs ++ ys)) else none
  | _, _ => none
theorem os_cat : OpS K ct true rCat gCat := fun G H dx dy x y d Q s r1 r2 e o => by
  unfold gCat at e
  split at e
  · split at e
    · rename_i hl
      cases e
      obtain ⟨p, vs, rfl, hp, rv⟩ := r1.lst_inv s
      obtain ⟨q, us, rfl, hq, ru⟩ := r2.lst_inv s
      exact ⟨p, q, vs, us, rfl, rfl, hp, hq, by rw [← rv.len, ← ru.len]; exact Nat.le_trans hl million, fun a ha => o.newL s ha (rv.append ru)⟩
    · cases e
  · cases e
theorem os_sub : OpS K ct false (rI0 fun i j => .int (i - j)) gSubt := fun G H dx dy x y d Q s r1 r2 e o => by
  unfold gSubt at e
  split at e
  · cases e; exact ⟨_, _, r1.int_inv, r2.int_inv, o.val s (.int _)⟩
  · cases e
def rMulA : R2 := fun x y H Q => (rI CMul (fun i j => .int (i * j)) x y H Q ∨ rI CMulW (fun i j => .int (i * j)) x y H Q) ∨ rRep x y H Q
theorem op_mulA {X : Cx} : OpR X (binaryOp .Mult) rMulA := OpR.or (OpR.or op_mul op_mulW) op_rep
theorem RVs.rep {G : Hp} {xs : List D} {vs : List V} (r : RVs K ct G xs vs) : ∀ n : Nat, RVs K ct G (List.replicate n xs).flatten (List.replicate n vs).flatten
  | 0 => .nil
  | n + 1 => by rw [List.replicate_succ, List.replicate_succ, List.flatten_cons, List.flatten_cons]; exact r.append (r.rep n)
theorem os_mul : OpS K ct false rMulA gMul := fun G H dx dy x y d Q s r1 r2 e o => by
  unfold gMul at e
  split at e
  · split at e
    · rename_i hm
      cases e
      rcases mul_ok hm with h | h
      · exact .inl (.inl ⟨_, _, r1.int_inv, r2.int_inv, h, o.val s (.int _)⟩)
      · exact .inl (.inr ⟨_, _, r1.int_inv, r2.int_inv, h, o.val s (.int _)⟩)
    · cases e
  · split at e
    · rename_i xs j hl
      cases e
      rw [Bool.and_eq_true, Bool.and_eq_true] at hl
      obtain ⟨⟨h1, h2⟩, h3⟩ := hl
      have h1 := of_decide_eq_true h1
      have h2 := of_decide_eq_true h2
      have h3 := of_decide_eq_true h3
      obtain ⟨p, vs, rfl, hp, rv⟩ := r1.lst_inv s
      exact .inr ⟨p, j, vs, rfl, r2.int_inv, hp, by omega, by omega, by rw [← rv.len]; exact Nat.le_trans h3 million, fun a ha => o.frz.newL s ha (rv.rep _)⟩
    · cases e
  · cases e
def gRep : D → D → Option D
  | .lst xs, .int j => if decide (0 ≤ j) && decide (j ≤ 1000000) && decide (xs.length * j.toNat ≤ 1000000) then some (.lst (List.replicate j.toNat xs).flatten) else none
  | _, _ => none
theorem os_rep : OpS K ct true rRep gRep := fun G H dx dy x y d Q s r1 r2 e o => by
  unfold gRep at e
  split at e
  · split at e
    · rename_i xs j hl
      cases e
      rw [Bool.and_eq_true, Bool.and_eq_true] at hl
      obtain ⟨⟨h1, h2⟩, h3⟩ := hl
      have h1 := of_decide_eq_true h1
      have h2 := of_decide_eq_true h2
      have h3 := of_decide_eq_true h3
      obtain ⟨p, vs, rfl, hp, rv⟩ := r1.lst_inv s
      exact ⟨p, j, vs, rfl, r2.int_inv, hp, by omega, by omega, by rw [← rv.len]; exact Nat.le_trans h3 million, fun a ha => o.newL s ha (rv.rep _)⟩
    · cases e
  · cases e
theorem os_div : OpS K ct false (rI CDivW fun i j => .int (i / j)) gDiv := fun G H dx dy x y d Q s r1 r2 e o => by
  unfold gDiv at e
  split at e
  · split at e
    · rename_i hm
      cases e
      exact ⟨_, _, r1.int_inv, r2.int_inv, div_ok hm, o.val s (.int _)⟩
    · cases e
  · cases e
theorem os_mod : OpS K ct false (rI (fun _ j => 0 < j) fun i j => .int (i % j)) gMod := fun G H dx dy x y d Q s r1 r2 e o => by
  unfold gMod at e
  split at e
  · split at e
    · rename_i hm
      cases e
      exact ⟨_, _, r1.int_inv, r2.int_inv, of_decide_eq_true hm, o.val s (.int _)⟩
    · cases e
  · cases e
theorem os_pow : OpS K ct false (rI CPow fun i j => .int (i ^ j.toNat)) gPow := fun G H dx dy x y d Q s r1 r2 e o => by
  unfold gPow at e
  split at e
  · split at e
    · rename_i hm
      cases e
      rw [Bool.and_eq_true, Bool.and_eq_true] at hm
      exact ⟨_, _, r1.int_inv, r2.int_inv, ⟨of_decide_eq_true hm.1.1, of_decide_eq_true hm.1.2, of_decide_eq_true hm.2⟩, o.val s (.int _)⟩
    · cases e
  · cases e
theorem us_neg : UnS K ct false (rU fun i => .int (-i)) gNeg := fun G H dx x d Q s r1 e o => by
  unfold gNeg at e
  split at e
  · cases e; exact ⟨_, r1.int_inv, o.val s (.int _)⟩
  · cases e
theorem os_lt : OpS K ct false (rI0 fun i j => .bl (decide (i < j))) gLt := fun G H dx dy x y d Q s r1 r2 e o => by
  unfold gLt at e
  split at e
  · cases e; exact ⟨_, _, r1.int_inv, r2.int_inv, o.val s (.bl _)⟩
  · cases e
theorem os_le : OpS K ct false (rI0 fun i j => .bl (decide (i ≤ j))) gLe := fun G H dx dy x y d Q s r1 r2 e o => by
  unfold gLe at e
  split at e
  · cases e; exact ⟨_, _, r1.int_inv, r2.int_inv, o.val s (.bl _)⟩
  · cases e
theorem os_gt : OpS K ct false (rI0 fun i j => .bl (decide (j < i))) gGt := fun G H dx dy x y d Q s r1 r2 e o => by
  unfold gGt at e
  split at e
  · cases e; exact ⟨_, _, r1.int_inv, r2.int_inv, o.val s (.bl _)⟩
  · cases e
theorem os_ge : OpS K ct false (rI0 fun i j => .bl (decide (j ≤ i))) gGe := fun G H dx dy x y d Q s r1 r2 e o => by
  unfold gGe at e
  split at e
  · cases e; exact ⟨_, _, r1.int_inv, r2.int_inv, o.val s (.bl _)⟩
  · cases e
mutual
theorem toPy_dp {G H : Hp} (s : Same G H) : ∀ {d : D} {v : V} {a : PyData}, RV K ct G d v → toPy d = some a → Dp K H v a
  | _, _, _, .non, e => by unfold toPy at e; cases e; exact .non
  | _, _, _, .bl b, e => by unfold toPy at e; cases e; exact .bl b
  | _, _, _, .int b, e => by unfold toPy at e; cases e; exact .int b
  | _, _, _, .str b, e => by unfold toPy at e; cases e; exact .str b
  | _, _, _, @RV.tup _ _ _ p xs vs h r, e => by
    unfold toPy at e
    cases z : toPys xs with
    | none => rw [z] at e; cases e
    | some q => rw [z] at e; cases e; exact .tup (.inl (.inl (s _ _ h))) (toPys_dp s r z)
  | _, _, _, @RV.lst _ _ _ p xs vs h r, e => by
    unfold toPy at e
    cases z : toPys xs with
    | none => rw [z] at e; cases e
    | some q => rw [z] at e; cases e; exact .lst (.inl (.inl (s _ _ h))) (toPys_dp s r z)
  | _, _, _, @RV.fls _ _ _ p xs vs h r, e => by
    unfold toPy at e
    cases z : toPys xs with
    | none => rw [z] at e; cases e
    | some q => rw [z] at e; cases e; exact .lst (sql_same s h) (toPys_dp s r z)
  | _, _, _, .dK h r, e => by unfold toPy at e; cases e
  | _, _, _, .dT h r, e => by unfold toPy at e; cases e
  | _, _, _, .obj h r, e => by unfold toPy at e; cases e
  | _, _, _, .ldK _ h r, e => by unfold toPy at e; cases e
  | _, _, _, .opq v, e => by unfold toPy at e; cases e
  | _, _, _, .exc0 _, e => by unfold toPy at e; cases e
  | _, _, _, .exc1 _ _ _, e => by unfold toPy at e; cases e
theorem toPys_dp {G H : Hp} (s : Same G H) : ∀ {d : List D} {v : List V} {a : List PyData}, RVs K ct G d v → toPys d = some a → DpAll K H v a
  | _, _, _, .nil, e => by unfold toPys at e; cases e; exact .nil
  | _, _, _, @RVs.cons _ _ _ x v xs vs h r, e => by
    unfold toPys at e
    cases z1 : toPy x with
    | none => rw [z1] at e; cases e
    | some q1 =>
      cases z : toPys xs with
      | none => rw [z1, z] at e; cases e
      | some q => rw [z1, z] at e; cases e; exact .cons (toPy_dp s h z1) (toPys_dp s r z)
end
theorem rd_dp {G H : Hp} (s : Same G H) {d : D} {v : V} {a : PyData} (h : RD K ct G H d v) (e : toPy d = some a) : Dp K H v a := by
  rcases h with h | h
  · exact toPy_dp s h e
  · obtain ⟨p, o, rfl, _, _⟩ := h.top
    cases d with
    | lst xs =>
      obtain ⟨vs, h1, _, r⟩ := h
      unfold toPy at e
      cases z : toPys xs with
      | none => rw [z] at e; cases e
      | some q => rw [z] at e; cases e; exact .lst (.inl (.inl h1)) (toPys_dp s r z)
    | _ => first | exact h.elim | (unfold toPy at e; cases e)
theorem gEqB_some {x y : D} {b : Bool} (h : gEqB x y = some b) : ∃ a c, toPy x = some a ∧ toPy y = some c ∧ SeqAt.shaped a = true ∧ SeqAt.shaped c = true ∧ b = PyData.eqv a c := by
  unfold gEqB at h
  cases z1 : toPy x with
  | none => rw [z1] at h; cases h
  | some a =>
    cases z2 : toPy y with
    | none => rw [z1, z2] at h; cases h
    | some c =>
      rw [z1, z2] at h
      dsimp only at h
      split at h
      · rename_i hs
        rw [Bool.and_eq_true] at hs
        cases h
        exact ⟨a, c, rfl, rfl, hs.1, hs.2, rfl⟩
      · cases h
theorem os_eq : OpS K ct false (rEqD K) gEq := fun G H dx dy x y d Q s r1 r2 e o => by
  unfold gEq at e
  cases z : gEqB dx dy with
  | none => rw [z] at e; cases e
  | some b =>
    rw [z] at e
    cases e
    obtain ⟨a, c, h1, h2, h3, h4, rfl⟩ := gEqB_some z
    exact ⟨a, c, rd_dp s r1 h1, rd_dp s r2 h2, h3, h4, o.val s (.bl _)⟩
theorem os_ne : OpS K ct false (rNeD K) gNe := fun G H dx dy x y d Q s r1 r2 e o => by
  unfold gNe at e
  cases z : gEqB dx dy with
  | none => rw [z] at e; cases e
  | some b =>
    rw [z] at e
    cases e
    obtain ⟨a, c, h1, h2, h3, h4, rfl⟩ := gEqB_some z
    exact ⟨a, c, rd_dp s r1 h1, rd_dp s r2 h2, h3, h4, o.val s (.bl _)⟩
theorem isN_rv {G H : Hp} {d : D} {v : V} (h : RD K ct G H d v) : decide (v = .non) = isNon d := by
  rcases h with h | h
  · cases h <;> rfl
  · obtain ⟨p, o, rfl, _, _⟩ := h.top
    cases d with
    | non => exact h.elim
    | _ => rfl
def rIsA : R2 := fun x y H Q => (y = .non ∧ Q (.bl (decide (x = .non))) H) ∨ rIsB x y H Q
def rNotA : R2 := fun x y H Q => (y = .non ∧ Q (.bl (!decide (x = .non))) H) ∨ rNotB x y H Q
theorem op_isA {X : Cx} : OpR X (compareOp .Is) rIsA := OpR.or op_isN op_isBl
theorem op_notA {X : Cx} : OpR X (compareOp .IsNot) rNotA := OpR.or op_notN op_notBl
theorem os_is : OpS K ct false rIsA gIsN := fun G H dx dy x y d Q s r1 r2 e o => by
  unfold gIsN at e
  split at e
  · cases e
    refine .inl ⟨r2.non_inv, ?_⟩
    rw [isN_rv r1]
    exact o.val s (.bl _)
  · split at e
    · cases e
      exact .inr ⟨_, _, r1.bl_inv, r2.bl_inv, o.val s (.bl _)⟩
    · cases e
  · cases e
theorem os_isnot : OpS K ct false rNotA gNotN := fun G H dx dy x y d Q s r1 r2 e o => by
  unfold gNotN at e
  split at e
  · cases e
    refine .inl ⟨r2.non_inv, ?_⟩
    rw [isN_rv r1]
    exact o.val s (.bl _)
  · split at e
    · cases e
      exact .inr ⟨_, _, r1.bl_inv, r2.bl_inv, o.val s (.bl _)⟩
    · cases e
  · cases e
theorem flat_rv {G H : Hp} {d : D} {v a : V} (h : RD K ct G H d v) (e : flatD d = some a) : v = a ∧ flatV v = true := by
  cases d with
  | non => cases e; exact ⟨h.non_inv, by rw [h.non_inv]; rfl⟩
  | bl b => cases e; exact ⟨h.bl_inv, by rw [h.bl_inv]; rfl⟩
  | int b => cases e; exact ⟨h.int_inv, by rw [h.int_inv]; rfl⟩
  | str b => cases e; exact ⟨h.str_inv, by rw [h.str_inv]; rfl⟩
  | _ => cases e
theorem flats_rv {G : Hp} : ∀ {ds : List D} {vs as : List V}, RVs K ct G ds vs → flats ds = some as → vs = as ∧ vs.all flatV = true
  | _, _, _, .nil, e => by unfold flats at e; cases e; exact ⟨rfl, rfl⟩
  | _, _, _, @RVs.cons _ _ _ x v xs vs h r, e => by
    unfold flats at e
    cases z1 : flatD x with
    | none => rw [z1] at e; cases e
    | some q1 =>
      cases z : flats xs with
      | none => rw [z1, z] at e; cases e
      | some q =>
        rw [z1, z] at e
        cases e
        obtain ⟨a1, a2⟩ := flat_rv (H := G) (.inl h) z1
        obtain ⟨b1, b2⟩ := flats_rv r z
        exact ⟨by rw [a1, b1], by rw [List.all_cons, a2, b2]; rfl⟩
theorem gInB_some {G H : Hp} (s : Same G H) {dx dy : D} {x y : V} {b : Bool} (r1 : RD K ct G H dx x) (r2 : RD K ct G H dy y) (h : gInB dx dy = some b) : ∃ p xs, y = .ref p ∧ (SqL K H p xs ∨ SqT K H p xs) ∧ flatV x = true ∧ xs.all flatV = true ∧ b = inV x xs := by
  unfold gInB at h
  cases z1 : flatD dx with
  | none => rw [z1] at h; simp at h
  | some a =>
    rw [z1] at h
    obtain ⟨e1, e2⟩ := flat_rv r1 z1
    cases dy with
    | lst xs =>
      obtain ⟨p, vs, rfl, hp, rv⟩ := r2.lst_inv s
      dsimp only at h
      cases z : flats xs with
      | none => rw [z] at h; simp at h
      | some q =>
        rw [z] at h
        obtain ⟨b1, b2⟩ := flats_rv rv z
        cases h
        exact ⟨p, vs, rfl, .inl (.inl (.inl hp)), e2, b2, by rw [e1, b1]⟩
    | fls xs =>
      obtain ⟨p, vs, rfl, hp, _, rv⟩ := r2.fls_inv s
      dsimp only at h
      cases z : flats xs with
      | none => rw [z] at h; simp at h
      | some q =>
        rw [z] at h
        obtain ⟨b1, b2⟩ := flats_rv rv z
        cases h
        exact ⟨p, vs, rfl, .inl hp, e2, b2, by rw [e1, b1]⟩
    | tup xs =>
      obtain ⟨p, vs, rfl, hp, _, rv⟩ := r2.tup_inv s
      dsimp only at h
      cases z : flats xs with
      | none => rw [z] at h; simp at h
      | some q =>
        rw [z] at h
        obtain ⟨b1, b2⟩ := flats_rv rv z
        cases h
        exact ⟨p, vs, rfl, .inr (.inl (.inl hp)), e2, b2, by rw [e1, b1]⟩
    | _ => simp at h
theorem os_in : OpS K ct false (rIn K false) gIn := fun G H dx dy x y d Q s r1 r2 e o => by
  unfold gIn at e
  cases z : gInB dx dy with
  | none => rw [z] at e; cases e
  | some b =>
    rw [z] at e
    cases e
    obtain ⟨p, xs, h1, h2, h3, h4, rfl⟩ := gInB_some s r1 r2 z
    exact ⟨p, xs, h1, h2, h3, h4, o.val s (.bl _)⟩
theorem os_notin : OpS K ct false (rIn K true) gNotIn := fun G H dx dy x y d Q s r1 r2 e o => by
  unfold gNotIn at e
  cases z : gInB dx dy with
  | none => rw [z] at e; cases e
  | some b =>
    rw [z] at e
    cases e
    obtain ⟨p, xs, h1, h2, h3, h4, rfl⟩ := gInB_some s r1 r2 z
    exact ⟨p, xs, h1, h2, h3, h4, o.val s (.bl _)⟩
theorem os_ix : OpS K ct false (rIx K) gIx := fun G H dx dy x y d Q s r1 r2 e o => by
  unfold gIx at e
  split at e
  · obtain ⟨p, vs, rfl, hp, rv⟩ := r1.lst_inv s
    obtain ⟨v, hv, r⟩ := atI_rv rv e
    exact .inl ⟨p, vs, _, v, rfl, r2.int_inv, .inl (.inl hp), hv, o.val s r⟩
  · obtain ⟨p, vs, rfl, hp, _, rv⟩ := r1.tup_inv s
    obtain ⟨v, hv, r⟩ := atI_rv rv e
    exact .inr (.inl ⟨p, vs, _, v, rfl, r2.int_inv, .inl (.inl hp), hv, o.val s r⟩)
  · obtain ⟨p, vs, rfl, hp, _, rv⟩ := r1.fls_inv s
    obtain ⟨v, hv, r⟩ := atI_rv rv e
    exact .inl ⟨p, vs, _, v, rfl, r2.int_inv, hp, hv, o.val s r⟩
  · split at e
    · rename_i z i hl
      cases h : atI z.cps.toList i with
      | none => rw [h] at e; cases e
      | some c =>
        rw [h] at e
        cases e
        exact .inr (.inr ⟨z, i, c, r1.str_inv, r2.int_inv, Nat.le_trans hl million, h, o.val s (.str _)⟩)
    · cases e
  · cases e
end
section
variable {X : Cx} {ct : Nat → Addr} {c : Cf} {W : WX} {a b : Expr} {da db : DE} {pos : Pos}
theorem je_add (ha : JE X ct c W false a da) (hb : JE X ct c W false b db) : JE X ct c W false (.BinOp a .Add b pos) (dOp gAdd da db) := je_op op_addA os_add ha hb
theorem je_cat (ha : JE X ct c W false a da) (hb : JE X ct c W false b db) : JE X ct c W true (.BinOp a .Add b pos) (dOp gCat da db) := je_op op_cat os_cat ha hb
theorem je_sub (ha : JE X ct c W false a da) (hb : JE X ct c W false b db) : JE X ct c W false (.BinOp a .Sub b pos) (dOp gSubt da db) := je_op op_sub os_sub ha hb
theorem je_mul (ha : JE X ct c W false a da) (hb : JE X ct c W false b db) : JE X ct c W false (.BinOp a .Mult b pos) (dOp gMul da db) := je_op op_mulA os_mul ha hb
theorem je_rep (ha : JE X ct c W false a da) (hb : JE X ct c W false b db) : JE X ct c W true (.BinOp a .Mult b pos) (dOp gRep da db) := je_op op_rep os_rep ha hb
theorem je_div (ha : JE X ct c W false a da) (hb : JE X ct c W false b db) : JE X ct c W false (.BinOp a .FloorDiv b pos) (dOp gDiv da db) := je_op op_fdivW os_div ha hb
theorem je_mod (ha : JE X ct c W false a da) (hb : JE X ct c W false b db) : JE X ct c W false (.BinOp a .Mod b pos) (dOp gMod da db) := je_op op_mod os_mod ha hb
theorem je_pow (ha : JE X ct c W false a da) (hb : JE X ct c W false b db) : JE X ct c W false (.BinOp a .Pow b pos) (dOp gPow da db) := je_op op_pow os_pow ha hb
theorem je_neg (ha : JE X ct c W false a da) : JE X ct c W false (.UnaryOp .USub a pos) (dUn gNeg da) := je_un un_neg us_neg ha
theorem je_eq (hu : X.A.units + 64 < cLine) (ha : JE X ct c W false a da) (hb : JE X ct c W false b db) : JE X ct c W false (.Compare a [.Eq] [b] pos) (dOp gEq da db) := je_cmp (op_eqD hu) os_eq (nomark _) ha hb
theorem je_ne (hu : X.A.units + 64 < cLine) (ha : JE X ct c W false a da) (hb : JE X ct c W false b db) : JE X ct c W false (.Compare a [.NotEq] [b] pos) (dOp gNe da db) := je_cmp (op_neD hu) os_ne (nomark _) ha hb
theorem je_lt (ha : JE X ct c W false a da) (hb : JE X ct c W false b db) : JE X ct c W false (.Compare a [.Lt] [b] pos) (dOp gLt da db) := je_cmp op_lt os_lt (nomark _) ha hb
theorem je_le (ha : JE X ct c W false a da) (hb : JE X ct c W false b db) : JE X ct c W false (.Compare a [.LtE] [b] pos) (dOp gLe da db) := je_cmp op_le os_le (nomark _) ha hb
theorem je_gt (ha : JE X ct c W false a da) (hb : JE X ct c W false b db) : JE X ct c W false (.Compare a [.Gt] [b] pos) (dOp gGt da db) := je_cmp op_gt os_gt (nomark _) ha hb
theorem je_ge (ha : JE X ct c W false a da) (hb : JE X ct c W false b db) : JE X ct c W false (.Compare a [.GtE] [b] pos) (dOp gGe da db) := je_cmp op_ge os_ge (nomark _) ha hb
theorem je_is (ha : JE X ct c W false a da) (hb : JE X ct c W false b db) : JE X ct c W false (.Compare a [.Is] [b] pos) (dOp gIsN da db) := je_cmp op_isA os_is (nomark _) ha hb
theorem je_isnot (ha : JE X ct c W false a da) (hb : JE X ct c W false b db) : JE X ct c W false (.Compare a [.IsNot] [b] pos) (dOp gNotN da db) := je_cmp op_notA os_isnot (nomark _) ha hb
theorem je_in (ha : JE X ct c W false a da) (hb : JE X ct c W false b db) (hm : behindInMarks .In b = false := by rfl) : JE X ct c W false (.Compare a [.In] [b] pos) (dOp gIn da db) := je_cmp op_in_seq os_in hm ha hb
theorem je_notin (ha : JE X ct c W false a da) (hb : JE X ct c W false b db) (hm : behindInMarks .NotIn b = false := by rfl) : JE X ct c W false (.Compare a [.NotIn] [b] pos) (dOp gNotIn da db) := je_cmp op_notIn_seq os_notin hm ha hb
theorem jt_of {op : CmpOp} {g : D → D → Option D} (h : ∃ r, OpR X (compareOp op) r ∧ OpS X.K ct false r g) (hm : behindInMarks op b = false) (ha : JE X ct c W false a da) (hb : JE X ct c W false b db) : JT X ct c W (.Compare a [op] [b] pos) (dTest (dOp g da db)) := let ⟨_, h1, h2⟩ := h; jt_cmp h1 h2 hm ha hb
theorem jt_eq (hu : X.A.units + 64 < cLine) (ha : JE X ct c W false a da) (hb : JE X ct c W false b db) : JT X ct c W (.Compare a [.Eq] [b] pos) (dTest (dOp gEq da db)) := jt_cmp (op_eqD hu) os_eq (nomark _) ha hb
theorem jt_ne (hu : X.A.units + 64 < cLine) (ha : JE X ct c W false a da) (hb : JE X ct c W false b db) : JT X ct c W (.Compare a [.NotEq] [b] pos) (dTest (dOp gNe da db)) := jt_cmp (op_neD hu) os_ne (nomark _) ha hb
theorem jt_lt (ha : JE X ct c W false a da) (hb : JE X ct c W false b db) : JT X ct c W (.Compare a [.Lt] [b] pos) (dTest (dOp gLt da db)) := jt_cmp op_lt os_lt (nomark _) ha hb
theorem jt_le (ha : JE X ct c W false a da) (hb : JE X ct c W false b db) : JT X ct c W (.Compare a [.LtE] [b] pos) (dTest (dOp gLe da db)) := jt_cmp op_le os_le (nomark _) ha hb
theorem jt_gt (ha : JE X ct c W false a da) (hb : JE X ct c W false b db) : JT X ct c W (.Compare a [.Gt] [b] pos) (dTest (dOp gGt da db)) := jt_cmp op_gt os_gt (nomark _) ha hb
theorem jt_ge (ha : JE X ct c W false a da) (hb : JE X ct c W false b db) : JT X ct c W (.Compare a [.GtE] [b] pos) (dTest (dOp gGe da db)) := jt_cmp op_ge os_ge (nomark _) ha hb
theorem jt_is (ha : JE X ct c W false a da) (hb : JE X ct c W false b db) : JT X ct c W (.Compare a [.Is] [b] pos) (dTest (dOp gIsN da db)) := jt_cmp op_isA os_is (nomark _) ha hb
theorem jt_isnot (ha : JE X ct c W false a da) (hb : JE X ct c W false b db) : JT X ct c W (.Compare a [.IsNot] [b] pos) (dTest (dOp gNotN da db)) := jt_cmp op_notA os_isnot (nomark _) ha hb
theorem jt_in (ha : JE X ct c W false a da) (hb : JE X ct c W false b db) (hm : behindInMarks .In b = false := by rfl) : JT X ct c W (.Compare a [.In] [b] pos) (dTest (dOp gIn da db)) := jt_cmp op_in_seq os_in hm ha hb
theorem jt_notin (ha : JE X ct c W false a da) (hb : JE X ct c W false b db) (hm : behindInMarks .NotIn b = false := by rfl) : JT X ct c W (.Compare a [.NotIn] [b] pos) (dTest (dOp gNotIn da db)) := jt_cmp op_notIn_seq os_notin hm ha hb
theorem je_ix (ha : JE X ct c W false a da) (hb : JE X ct c W false b db) (hs : PlainIx b := by intro _ _; rfl) : JE X ct c W false (.Subscript a b pos) (dOp gIx da db) :=
  let ⟨_, pa, sa⟩ := ha; let ⟨_, pb, sb⟩ := hb; ⟨_, pe_ix ix_seq pa pb hs, sim_op os_ix sa sb⟩
end
end Dn

namespace Dn
open PySem PySem.Spec PyProof.Rows L2
/-! the weakest reading that a denotation serves -/
def tCanE (K : PySem.W.Frag) (ct : Nat → Addr) (c : Cf) (W : WX) (f : Bool) (d : DE) : TE := fun σ H Q => ∃ G env, Rel K ct c G H env σ ∧ PostE K ct c W f G H σ Q (d env)
def tCanT (K : PySem.W.Frag) (ct : Nat → Addr) (c : Cf) (W : WX) (d : DT) : TT := fun σ H Q => ∃ G env, Rel K ct c G H env σ ∧ PostB K ct c W G H σ Q (d env)
def tCanS (K : PySem.W.Frag) (ct : Nat → Addr) (c : Cf) (W : WX) (d : DS) : TS := fun E σ H => ∃ G env, Rel K ct c G H env σ ∧ PostS K ct c W G E (d env)
section
variable {X : Cx} {ct : Nat → Addr} {c : Cf} {W : WX} {f : Bool}
theorem JE.can {e : Expr} {d : DE} (h : JE X ct c W f e d) : PE X e (tCanE X.K ct c W f d) := let ⟨_, p, s⟩ := h; ⟨fun pins s0 σ H Q I ⟨G, env, r, q⟩ => p.run pins s0 σ H Q I (s G H env σ Q r q)⟩
theorem JT.can {e : Expr} {d : DT} (h : JT X ct c W e d) : PT X e (tCanT X.K ct c W d) := let ⟨_, p, s⟩ := h; ⟨fun pins s0 σ H Q I ⟨G, env, r, q⟩ => p.run pins s0 σ H Q I (s G H env σ Q r q)⟩
theorem JSs.can {e : List Stmt} {d : DS} (h : JSs X ct c W e d) : PSs X e (tCanS X.K ct c W d) := let ⟨_, p, s⟩ := h; ⟨fun pins s0 σ H E I ⟨G, env, r, q⟩ => p.run pins s0 σ H E I (s G H env σ E r q)⟩
theorem sim_canE {K : PySem.W.Frag} {d : DE} : SimE K ct c W f (tCanE K ct c W f d) d := fun G H env σ Q r p => ⟨G, env, r, p⟩
theorem sim_canT {K : PySem.W.Frag} {d : DT} : SimT K ct c W (tCanT K ct c W d) d := fun G H env σ Q r p => ⟨G, env, r, p⟩
theorem sim_canS {K : PySem.W.Frag} {d : DS} : SimS K ct c W (tCanS K ct c W d) d := fun G H env σ Q r p => ⟨G, env, r, p⟩
end
/-! comprehensions -/
def wipeE (env : Env) : List Nat → Env
  | [] => env
  | v :: vs => (wipeE env vs).set v none
/-- env, but with env0's values at vs -/
def resE (env0 env : Env) : List Nat → Env
  | [] => env
  | v :: vs => match env0[v]? with
    | some x => (resE env0 env vs).set v x
    | none => resE env0 env vs
section
variable {K : PySem.W.Frag} {ct : Nat → Addr} {c : Cf} {W : WX} {G G' H H' : Hp} {env env' : Env} {σ : L2.St}
theorem wipeE_len : ∀ vs : List Nat, (wipeE env vs).length = env.length
  | [] => rfl
  | v :: vs => by unfold wipeE; rw [List.length_set, wipeE_len vs]
theorem wipeE_get (i : Nat) : ∀ vs : List Nat, (wipeE env vs)[i]? = if i ∈ vs then (if i < env.length then some none else none) else env[i]?
  | [] => by unfold wipeE; simp
  | v :: vs => by
    unfold wipeE
    by_cases h : v = i
    · subst h
      by_cases hl : v < env.length
      · rw [List.getElem?_set_self (by rw [wipeE_len]; exact hl)]; simp [hl]
      · rw [List.getElem?_eq_none (by rw [List.length_set, wipeE_len]; omega)]; simp [hl]
    · rw [List.getElem?_set_ne h, wipeE_get i vs]
      have : (i ∈ v :: vs) ↔ i ∈ vs := by simp [Ne.symm h]
      simp only [this]
theorem wipe_get (i : Nat) : ∀ vs : List Nat, (L2.wipe σ vs)[i]? = if i ∈ vs then (if i < σ.length then some none else none) else σ[i]?
  | [] => by unfold L2.wipe; simp
  | v :: vs => by
    unfold L2.wipe
    by_cases h : v = i
    · subst h
      by_cases hl : v < σ.length
      · rw [List.getElem?_set_self (by rw [L2.wipe_length]; exact hl)]; simp [hl]
      · rw [List.getElem?_eq_none (by rw [List.length_set, L2.wipe_length]; omega)]; simp [hl]
    · rw [List.getElem?_set_ne h, wipe_get i vs]
      have : (i ∈ v :: vs) ↔ i ∈ vs := by simp [Ne.symm h]
      simp only [this]
theorem resE_len (env0 : Env) : ∀ vs : List Nat, (resE env0 env vs).length = env.length
  | [] => rfl
  | v :: vs => by
    unfold resE
    split
    · rw [List.length_set, resE_len env0 vs]
    · exact resE_len env0 vs
theorem resE_get (env0 : Env) (hl : env0.length = env.length) (i : Nat) : ∀ vs : List Nat, (resE env0 env vs)[i]? = if i ∈ vs then env0[i]? else env[i]?
  | [] => by unfold resE; simp
  | v :: vs => by
    unfold resE
    by_cases h : v = i
    · subst h
      cases e : env0[v]? with
      | none =>
        dsimp only
        rw [resE_get env0 hl v vs]
        have : env[v]? = none := by
          rw [List.getElem?_eq_none_iff] at e ⊢; omega
        simp [e, this]
      | some x =>
        dsimp only
        have hv : v < env0.length := (List.getElem?_eq_some_iff.mp e).1
        rw [List.getElem?_set_self (by rw [resE_len]; omega)]
        simp
    · have hm : (i ∈ v :: vs) ↔ i ∈ vs := by simp [Ne.symm h]
      cases e : env0[v]? with
      | none => dsimp only; rw [resE_get env0 hl i vs]; simp only [hm]
      | some x => dsimp only; rw [List.getElem?_set_ne h, resE_get env0 hl i vs]; simp only [hm]
theorem Rel.wipe {vs : List Nat} (r : Rel K ct c G H env σ) (hv : ∀ i, i ∈ vs → i ∉ c.own) : Rel K ct c G H (wipeE env vs) (L2.wipe σ vs) where
  sub := r.sub
  up := r.up
  dn := r.dn
  fr := r.fr
  ioH := r.ioH
  len := by rw [wipeE_len, L2.wipe_length]; exact r.len
  slot := fun i d e => by
    rw [wipeE_get] at e
    by_cases h : i ∈ vs
    · rw [if_pos h] at e; split at e <;> cases e
    · rw [if_neg h] at e
      rw [wipe_get, if_neg h]
      exact r.slot i d e
  dis := fun i j p hi hj e1 e2 gp => by
    rw [wipe_get, if_neg (fun z => hv i z hi)] at e1
    rw [wipe_get, if_neg (fun z => hv j z hj)] at e2
    exact r.dis i j p hi hj e1 e2 gp
  un := fun i e => by
    rw [wipeE_get] at e
    rw [wipe_get]
    by_cases h : i ∈ vs
    · rw [if_pos h] at e ⊢
      rw [← r.len]
      split at e
      · rename_i hl; rw [if_pos hl]
      · cases e
    · rw [if_neg h] at e ⊢
      exact r.un i e
  fix := fun p hp => by
    obtain ⟨h0, h1, h2⟩ := r.fix p hp
    refine ⟨h0, ?_, h2⟩
    rw [wipe_get, if_neg (fun z => hv 0 z h0)]
    exact h1
  pin := fun q hq => by
    obtain ⟨h0, h1⟩ := r.pin q hq
    refine ⟨h0, ?_⟩
    rw [wipe_get, if_neg (fun z => hv q.1 z h0)]
    exact h1
  tp := r.tp
theorem Rel.res {G0 H0 : Hp} {env0 : Env} {vs : List Nat} (r0 : Rel K ct c G0 H0 env0 σ) (g : Same G0 G) (r : Rel K ct c G H (wipeE env vs) (L2.wipe σ vs)) (hv : ∀ i, i ∈ vs → i ∉ c.own) : Rel K ct c G H (resE env0 env vs) σ := by
  have ln : env0.length = env.length := by
    have := r.len
    rw [wipeE_len, L2.wipe_length] at this
    rw [r0.len, this]
  refine ⟨r.sub, r.up, r.dn, r.fr, r.ioH, by rw [resE_len, ← ln]; exact r0.len, fun i d e => ?_, fun i j p a b e1 e2 gp => r0.dis i j p a b e1 e2 (g.free gp), fun i e => ?_, fun p hp => ?_, r0.pin, r.tp⟩
  · rw [resE_get env0 ln] at e
    by_cases h : i ∈ vs
    · rw [if_pos h] at e
      obtain ⟨v, hv', a1, a2⟩ := r0.slot i d e
      exact ⟨v, hv', fun hn => (a1 hn).mono g, fun ho => absurd ho (hv i h)⟩
    · rw [if_neg h] at e
      obtain ⟨v, hv', a⟩ := r.slot i d (by rw [wipeE_get, if_neg h]; exact e)
      rw [wipe_get, if_neg h] at hv'
      exact ⟨v, hv', a⟩
  · rw [resE_get env0 ln] at e
    by_cases h : i ∈ vs
    · rw [if_pos h] at e; exact r0.un i e
    · rw [if_neg h] at e
      have := r.un i (by rw [wipeE_get, if_neg h]; exact e)
      rw [wipe_get, if_neg h] at this
      exact this
  · obtain ⟨x1, x2, _⟩ := r0.fix p hp
    obtain ⟨_, _, x3⟩ := r.fix p hp
    exact ⟨x1, x2, x3⟩
end
theorem Stp.cong {c : Cf} {σ σ' : L2.St} {G H G' H' : Hp} (s : Stp c σ G H G' H') (e : ∀ i, i ∈ c.own → σ[i]? = σ'[i]?) : Stp c σ' G H G' H' :=
  ⟨s.g, fun p o h q => s.h p o h fun i hi => by rw [e i hi]; exact q i hi, fun p o h => by
    rcases s.n p o h with z | z | ⟨i, z1, z2⟩
    · exact .inl z
    · exact .inr (.inl z)
    · exact .inr (.inr ⟨i, z1, by rw [← e i z1]; exact z2⟩)⟩
def SimGV (K : PySem.W.Frag) (ct : Nat → Addr) (c : Cf) (vs : List Nat) (g : TG) (d : DG) : Prop := ∀ G H env env' σ x v Q, Rel K ct c G H env σ → RV K ct G x v → d x env = some env' → (∀ σ', L2.wipe σ' vs = L2.wipe σ vs → Rel K ct c G H env' σ' → Q σ' H) → g v σ H Q
def SimGVs (K : PySem.W.Frag) (ct : Nat → Addr) (c : Cf) (vs : List Nat) (g : TGs) (d : DGs) : Prop := ∀ G H env env' σ x v Q, Rel K ct c G H env σ → RVs K ct G x v → d x env = some env' → (∀ σ', L2.wipe σ' vs = L2.wipe σ vs → Rel K ct c G H env' σ' → Q σ' H) → g v σ H Q
section
variable {X : Cx} {ct : Nat → Addr} {c : Cf} {W : WX} {K : PySem.W.Frag}
theorem wipe_set {σ : L2.St} {i : Nat} {x : Option V} {vs : List Nat} (h : i ∈ vs) : L2.wipe (σ.set i x) vs = L2.wipe σ vs := by
  apply List.ext_getElem?
  intro j
  rw [wipe_get, wipe_get]
  by_cases hj : j ∈ vs
  · rw [if_pos hj, if_pos hj, List.length_set]
  · rw [if_neg hj, if_neg hj, List.getElem?_set_ne (fun z => hj (by rw [← z]; exact h))]
theorem sgv_name {i : Nat} {vs : List Nat} (hi : i ∉ c.own) (hv : i ∈ vs) : SimGV K ct c vs (gName i) (gN i) := fun G H env env' σ x v Q r h e k => by
  cases e; exact k _ (wipe_set hv) (r.set hi h)
theorem sgv_nil {vs : List Nat} : SimGVs K ct c vs gNil gsNil := fun G H env env' σ x v Q r h e k => by
  cases h with
  | nil => cases e; exact ⟨rfl, k _ rfl r⟩
  | cons _ _ => cases e
theorem sgv_cons {vs : List Nat} {t : TG} {u : TGs} {a : DG} {b : DGs} (ha : SimGV K ct c vs t a) (hb : SimGVs K ct c vs u b) : SimGVs K ct c vs (gCons t u) (gsCons a b) := fun G H env env' σ x v Q r h e k => by
  cases h with
  | nil => cases e
  | @cons d v ds vs' r1 r2 =>
    unfold gsCons at e
    dsimp only at e
    cases z : a d env with
    | none => rw [z] at e; cases e
    | some e1 =>
      rw [z] at e
      exact ⟨_, _, rfl, ha G H env e1 σ d v _ r r1 z fun σ1 w1 R1 => hb G H e1 env' σ1 ds vs' Q R1 r2 e fun σ2 w2 R2 => k σ2 (w2.trans w1) R2⟩
theorem sgv_tup {vs : List Nat} {t : TGs} {b : DGs} {n : Nat} (hb : SimGVs K ct c vs t b) : SimGV K ct c vs (gTup K n t) (gTp n b) := fun G H env env' σ x v Q r h e k => by
  unfold gTp at e
  cases h with
  | @tup p xs vs hp hv =>
    dsimp only at e
    by_cases hl : xs.length = n
    · rw [if_pos hl] at e
      exact ⟨p, vs, rfl, .inl (.inl (r.sub _ _ hp)), by rw [← hv.len]; exact hl, hb G H env env' σ xs vs Q r hv e k⟩
    · rw [if_neg hl] at e; cases e
  | _ => cases e
/-- e for .. in xs if t: what the list holds; the env's changes go on -/
inductive RC where
  | ok (acc : List D) (env : Env) | no
def compL (vs : List Nat) (g : DG) (t : DT) (e : DE) : List D → List D → Env → RC
  | [], acc, env => .ok acc env
  | d :: r, acc, env => match g d (wipeE env vs) with
    | none => .no
    | some e1 => match t e1 with
      | .ok true e2 => match e e2 with
        | .ok (.val y) e3 => match decide (acc.length < 1000000) with
          | true => compL vs g t e r (acc ++ [y]) e3
          | false => .no
        | _ => .no
      | .ok false e2 => compL vs g t e r acc e2
      | _ => .no
def dComp (vs : List Nat) (it : DI) (g : DG) (t : DT) (e : DE) : DE := fun env => match it env with
  | .ok xs e0 => match compL vs g t e xs [] e0 with
    | .ok acc e1 => .ok (.val (.lst acc)) (resE env e1 vs)
    | .no => .no
  | .ex q e0 => .ex q e0
  | .no => .no
def W0 : WX := fun _ _ _ _ => False
def dYes : DT := fun env => .ok true env
theorem sim_yes : SimT K ct c W tYes dYes := fun G H env σ Q r p => p G H .refl r
theorem sim_lc {wi : TI} {g : TG} {tt : TT} {te : TE} {vs : List Nat} {it : DI} {dg : DG} {dt : DT} {de : DE} (hv : ∀ i, i ∈ vs → i ∉ c.own) (hi : SimI K ct c W wi it) (hg : SimGV K ct c vs g dg) (ht : SimT K ct c W0 tt dt) (he : SimE K ct c W0 false te de) :
    SimE K ct c W true (tLc wi g tt te vs) (dComp vs it dg dt de) := fun G H env σ Q r p => by
  refine hi G H env σ _ r ?_
  unfold dComp at p
  cases ei : it env with
  | no => rw [ei] at p; exact p
  | ex q e => rw [ei] at p; exact p
  | ok xs e0 =>
    rw [ei] at p
    intro G1 H1 J s1 R1 IT
    dsimp only at p
    intro D hD
    have gD : G1 D = none := R1.g0 hD
    have nown : ∀ i, i ∈ c.own → σ[i]? ≠ some (some (.ref D)) := fun i hi hσ => by
      obtain ⟨o, hq⟩ := R1.own_ref hi hσ
      rw [hD] at hq; cases hq
    have sD : ∀ {G2 H2 : Hp}, Same G2 H2 → G2 D = none → ∀ o, Same G2 (upd H2 D o) := fun {G2 H2} s g o b x e => by rw [upd_ne (ne_of_none e g)]; exact s _ _ e
    -- D's object is nobody's: what is said of the state stays where it changes
    have relD : ∀ {G2 H2 : Hp} {env2 : Env} {σ2 : L2.St} (o : HO) (ho : ∀ vs, o ≠ .tup vs), (∀ i, i ∈ c.own → σ2[i]? ≠ some (some (.ref D))) → c.H0 D = none → D ∉ c.io → G2 D = none → Rel K ct c G2 H2 env2 σ2 → Rel K ct c G2 (upd H2 D o) env2 σ2 := fun {G2 H2 env2 σ2} o ho hn h0 hio hg R => by
      refine ⟨sD R.sub hg o, R.up, R.dn, fun b x e hb => ?_, fun b hb => ?_, R.len, fun i d e => ?_, R.dis, R.un, R.fix, R.pin, fun b vs e => by
        by_cases hb : b = D
        · subst hb; rw [upd_same] at e; exact absurd (Option.some.inj e) (ho vs)
        · rw [upd_ne hb] at e; exact R.tp b vs e⟩
      · rw [upd_ne (fun z => by rw [z, h0] at e; cases e)]; exact R.fr b x e hb
      · rw [upd_ne (fun z => hio (by rw [← z]; exact hb))]; exact R.ioH b hb
      · obtain ⟨v, hv', a1, a2⟩ := R.slot i d e
        refine ⟨v, hv', a1, fun ho => ?_⟩
        rcases a2 ho with ⟨b1, b2⟩ | b
        · obtain ⟨q, u, rfl, hq, gq⟩ := b1.top
          refine .inl ⟨b1.step (.refl _) (fun w hw => ?_) gq, b2⟩
          rw [upd_ne (fun z => hn i ho (by rw [← z]; exact hv'))]; exact hw
        · exact .inr b
    have h0D : c.H0 D = none := R1.h0 hD
    have ioD : D ∉ c.io := fun z => by obtain ⟨o, ho⟩ := R1.ioH D z; rw [hD] at ho; cases ho
    have nownw : ∀ {σ2 : L2.St}, L2.wipe σ2 vs = L2.wipe σ vs → ∀ i, i ∈ c.own → σ2[i]? = σ[i]? := fun {σ2} e i ho => by
      have h1 : (L2.wipe σ2 vs)[i]? = (L2.wipe σ vs)[i]? := by rw [e]
      rwa [wipe_get, wipe_get, if_neg (fun z => hv i z ho), if_neg (fun z => hv i z ho)] at h1
    have R1w := R1.wipe hv
    refine ⟨fun i m H2 => ∃ G2 env2 acc vacc, m = xs.length - i ∧ i ≤ xs.length ∧ Stp c σ G1 H1 G2 H2 ∧ Rel K ct c G2 H2 (wipeE env2 vs) (L2.wipe σ vs) ∧ H2 D = some (.lst vacc) ∧ G2 D = none ∧ RVs K ct G2 acc vacc ∧
        (∃ acc' e', compL vs dg dt de (xs.drop i) acc env2 = .ok acc' e' ∧ PostE K ct c W true G H σ Q (.ok (.val (.lst acc')) (resE env e' vs))), ⟨xs.length, G1, e0, [], [], by simp, Nat.zero_le _, ⟨.refl _, fun q o e _ => by rw [upd_ne (ne_of_none e hD)]; exact e, fun _ _ e => .inl e⟩, ?_, upd_same, gD, .nil, ?_⟩, ?_⟩
    · refine relD _ (fun _ z => nomatch z) (fun i ho hσ => ?_) h0D ioD gD R1w
      rw [wipe_get, if_neg (fun z => hv i z ho)] at hσ
      exact nown i ho hσ
    · rw [List.drop_zero]
      cases ec : compL vs dg dt de xs [] e0 with
      | no => rw [ec] at p; exact p.elim
      | ok acc' e' => rw [ec] at p; exact ⟨acc', e', rfl, p⟩
    · rintro i m H2 ⟨G2, env2, acc, vacc, rfl, hle, t2, R2, hD2, gD2, rv2, acc', e', ec, pf⟩
      have s2 := t2.g
      by_cases hlt : i < xs.length
      · refine .inr ⟨IT.go i G2 H2 s2 R2.sub hlt, fun H' => ∃ G3 env3 acc3 vacc3, Stp c σ G1 H1 G3 H' ∧ Rel K ct c G3 H' (wipeE env3 vs) (L2.wipe σ vs) ∧ H' D = some (.lst vacc3) ∧ G3 D = none ∧ RVs K ct G3 acc3 vacc3 ∧ compL vs dg dt de (xs.drop (i + 1)) acc3 env3 = .ok acc' e',
          fun H' ⟨G3, env3, acc3, vacc3, a1, a3, a4, a5, a6, a7⟩ => ⟨xs.length - (i + 1), by omega, G3, env3, acc3, vacc3, rfl, hlt, a1, a3, a4, a5, a6, acc', e', a7, pf⟩, fun x H' hy => ?_⟩
        obtain ⟨d, G3, hd, gr, rv⟩ := IT.yld i G2 H2 x H' s2 R2.sub hlt hy
        have ed : xs.drop i = d :: xs.drop (i + 1) := by
          have h1 : xs[i] = d := by
            rw [List.getElem?_eq_getElem hlt] at hd; exact Option.some.inj hd
          rw [← h1]; exact List.drop_eq_getElem_cons hlt
        rw [ed] at ec
        unfold compL at ec
        have gD3 : G3 D = none := by
          cases z : G3 D with
          | none => rfl
          | some u =>
            rcases gr.n D u z with y | y
            · rw [gD2] at y; cases y
            · rw [hD2] at y; cases y
        cases eg : dg d (wipeE env2 vs) with
        | none => rw [eg] at ec; cases ec
        | some e1 =>
          rw [eg] at ec
          dsimp only at ec
          refine hg G3 H' (wipeE env2 vs) e1 (L2.wipe σ vs) d x _ (R2.grow gr) rv eg fun σ3 w3 R3 => ?_
          have w3' : L2.wipe σ3 vs = L2.wipe σ vs := by
            rw [w3]
            apply List.ext_getElem?
            intro j
            by_cases hj : j ∈ vs
            · rw [wipe_get, wipe_get, if_pos hj, if_pos hj, L2.wipe_length]
            · rw [wipe_get, if_neg hj]
          refine ⟨w3', ?_⟩
          have own3 := nownw w3'
          have nD3 : ∀ i, i ∈ c.own → σ3[i]? ≠ some (some (.ref D)) := fun i ho hσ => nown i ho (by rw [← own3 i ho]; exact hσ)
          refine ht G3 H' e1 σ3 _ R3 ?_
          cases et : dt e1 with
          | no => rw [et] at ec; cases ec
          | ex q e2 => rw [et] at ec; cases ec
          | ok k e2 =>
            rw [et] at ec
            intro G4 H4 s4 R4
            have hD4 : H4 D = some (.lst vacc) := s4.h D _ (gr.h _ _ hD2) nD3
            have gD4 : G4 D = none := by
              cases z : G4 D with
              | none => rfl
              | some u =>
                rcases s4.n D u z with y | y | ⟨i, y1, y2⟩
                · rw [gD3] at y; cases y
                · rw [gr.h _ _ hD2] at y; cases y
                · exact absurd y2 (nD3 i y1)
            have t4 : Stp c σ G1 H1 G4 H4 := (t2.trans gr.stp).trans (s4.cong own3)
            cases k with
            | false =>
              refine iteF ⟨G4, e2, acc, vacc, t4, ?_, hD4, gD4, rv2.mono (gr.g.trans s4.g), ec⟩
              have := R4.wipe hv
              rwa [w3'] at this
            | true =>
              refine iteT (he G4 H4 e2 σ3 _ R4 ?_)
              dsimp only at ec
              cases ee : de e2 with
              | no => rw [ee] at ec; cases ec
              | ex q e3 => rw [ee] at ec; cases ec
              | ok rvy e3 =>
                rw [ee] at ec
                cases rvy with
                | slot j => cases ec
                | val y =>
                  dsimp only at ec
                  intro G5 H5 vy s5 R5 ry _
                  have hD5 : H5 D = some (.lst vacc) := s5.h D _ hD4 nD3
                  have gD5 : G5 D = none := by
                    cases z : G5 D with
                    | none => rfl
                    | some u =>
                      rcases s5.n D u z with y | y | ⟨i, y1, y2⟩
                      · rw [gD4] at y; cases y
                      · rw [hD4] at y; cases y
                      · exact absurd y2 (nD3 i y1)
                  have rvs5 := rv2.mono ((gr.g.trans s4.g).trans s5.g)
                  cases hlen : decide (acc.length < 1000000) with
                  | false => rw [hlen] at ec; cases ec
                  | true =>
                    rw [hlen] at ec
                    have hl := of_decide_eq_true hlen
                    refine ⟨vacc, hD5, by rw [← rvs5.len]; exact Nat.lt_of_lt_of_le hl million, G5, e3, acc ++ [y], vacc ++ [vy], ?_, ?_, upd_same, gD5, rvs5.append (.cons ry .nil), ec⟩
                    · have t5 := t4.trans (s5.cong own3)
                      refine ⟨t5.g, fun q o e hq => ?_, t5.n⟩
                      rw [upd_ne (ne_of_none e hD)]
                      exact t5.h q o e hq
                    · have := R5.wipe hv
                      rw [w3'] at this
                      refine relD _ (fun _ z => nomatch z) (fun i ho hσ => ?_) h0D ioD gD5 this
                      rw [wipe_get, if_neg (fun z => hv i z ho)] at hσ
                      exact nown i ho hσ
      · have e : i = xs.length := by omega
        subst e
        rw [List.drop_length] at ec
        unfold compL at ec
        cases ec
        refine .inl ⟨IT.stop G2 H2 s2 R2.sub, ?_⟩
        exact pf G2 H2 (.ref D) (s1.trans t2) (r.res (s1.g.trans s2) R2 hv) ⟨vacc, hD2, gD2, rv2⟩ (fun _ q e => by cases e; exact r.back s1 R1 hD)
end
end Dn

namespace Dn
open PySem PySem.Spec PyProof.Rows L2
section
variable {X : Cx} {ct : Nat → Addr} {c : Cf} {W : WX}
/-! comprehensions, as terms -/
theorem je_lc {elt tg iter : Expr} {ifs : List Expr} {scope : Scope} {own : List (Str × Nat)} {vs : List Nat} {pos : Pos} {it : DI} {g : TG} {dg : DG} {tt : TT} {dt : DT} {de : DE} (hc : X.calm = true) (hN : X.N.Nodup) (hv : vs.all (fun i => !decide (i ∈ c.own)) = true) (hvs : own.map (·.2) = vs) (ok : blkC X.N X.env.scope scope own = true) (hi : JI X ct c W tg iter it)
    (hg : ∀ (s : Shared) (H : Hp) (C : Addr) (cl : List (Str × Addr)) (fp : List Addr), PG (X.blk s H scope (compEnvC scope cl C X.env) fp) tg g) (sg : SimGV X.K ct c vs g dg)
    (ht : ∀ (s : Shared) (H : Hp) (C : Addr) (cl : List (Str × Addr)) (fp : List Addr), PTs (X.blk s H scope (compEnvC scope cl C X.env) fp) ifs tt) (st : SimT X.K ct c W0 tt dt)
    (he : ∀ (s : Shared) (H : Hp) (C : Addr) (cl : List (Str × Addr)) (fp : List Addr), JE (X.blk s H scope (compEnvC scope cl C X.env) fp) ct c W0 false elt de) (hs : ∀ x, foldedSetIterable iter X.env x = pure x := by intro _; rfl) :
    JE X ct c W true (.ListComp elt [⟨tg, iter, ifs, 0⟩] scope pos) (dComp vs it dg dt de) := by
  subst hvs
  obtain ⟨wi, p1, s1⟩ := hi
  refine ⟨_, pe_lc (te := tCanE X.K ct c W0 false de) hc hN p1 (blkOk_by ok) hg ht (fun s H C cl fp => (he s H C cl fp).can) hs, ?_⟩
  refine sim_lc (fun i hi => ?_) s1 sg st sim_canE
  have := List.all_eq_true.mp hv i hi
  simpa using this
theorem js_setLc {f : Bool} {i : Nat} {y : Str} {py : Pos} {elt tg iter : Expr} {ifs : List Expr} {scope : Scope} {own : List (Str × Nat)} {vs : List Nat} {pos spos : Pos} {it : DI} {g : TG} {dg : DG} {tt : TT} {dt : DT} {de : DE} (hf : decide (i ∈ c.own) = f) (hi0 : i ≠ 0 ∨ f = false) (hc : X.calm = true) (hN : X.N.Nodup) (hv : vs.all (fun i => !decide (i ∈ c.own)) = true) (hvs : own.map (·.2) = vs) (ok : blkC X.N X.env.scope scope own = true) (hi : JI X ct c W tg iter it)
    (hg : ∀ (s : Shared) (H : Hp) (C : Addr) (cl : List (Str × Addr)) (fp : List Addr), PG (X.blk s H scope (compEnvC scope cl C X.env) fp) tg g) (sg : SimGV X.K ct c vs g dg)
    (ht : ∀ (s : Shared) (H : Hp) (C : Addr) (cl : List (Str × Addr)) (fp : List Addr), PTs (X.blk s H scope (compEnvC scope cl C X.env) fp) ifs tt) (st : SimT X.K ct c W0 tt dt)
    (he : ∀ (s : Shared) (H : Hp) (C : Addr) (cl : List (Str × Addr)) (fp : List Addr), JE (X.blk s H scope (compEnvC scope cl C X.env) fp) ct c W0 false elt de)
    (hpn : c.pins.all (fun q => q.1 != i) = true := by rfl) (hy : X.N[i]? = some y := by rfl) (hyl : X.env.scope.names.lookup y = some .local := by rfl) (hsw : swapsWith (.ListComp elt [⟨tg, iter, ifs, 0⟩] scope pos) (some (.Name y py)) spos.line X.env = pure true := by exact sw_true rfl rfl rfl (by decide +kernel)) (hs : ∀ x, foldedSetIterable iter X.env x = pure x := by intro _; rfl) :
    JS X ct c W (.Assign [.Name y py] (.ListComp elt [⟨tg, iter, ifs, 0⟩] scope pos) spos) (sSet i (dComp vs it dg dt de)) := by
  subst hvs
  obtain ⟨wi, p1, s1⟩ := hi
  refine ⟨_, ps_setLc (i := i) (te := tCanE X.K ct c W0 false de) hc hN hy hyl hsw p1 (blkOk_by ok) hg ht (fun s H C cl fp => (he s H C cl fp).can) hs, ?_⟩
  have sl := sim_lc (K := X.K) (ct := ct) (c := c) (W := W) (fun i hi => by
    have := List.all_eq_true.mp hv i hi
    simpa using this) s1 sg st (sim_canE (K := X.K) (ct := ct) (c := c) (W := W0) (f := false) (d := de))
  cases f with
  | false => exact sim_set (of_decide_eq_false hf) sl.v
  | true => exact sim_setN (of_decide_eq_true hf) (hi0.elim id fun z => nomatch z) hpn sl
/-! built-ins -/
variable {K : PySem.W.Frag}
def bLen : List D → Option D
  | [.lst xs] => some (.int xs.length)
  | [.tup xs] => some (.int xs.length)
  | [.fls xs] => some (.int xs.length)
  | [.str x] => if x.length ≤ 1000000 then some (.int x.length) else none
  | [.dK xs] => some (.int xs.length)
  | _ => none
theorem RKs.len {G : Hp} : ∀ {ds : List (Key × D)} {vs : List (Key × V)}, RKs K ct G ds vs → ds.length = vs.length
  | _, _, .nil => rfl
  | _, _, .cons _ t => by rw [List.length_cons, List.length_cons, t.len]
def rLenA (K : PySem.W.Frag) : List V → Hp → VK → Prop := fun xs H Q => (∃ x n, xs = [x] ∧ LenV K x H n ∧ Q (.int n) H) ∨ (∃ a kvs, xs = [V.ref a] ∧ H a = some (.dK kvs) ∧ Q (.int kvs.length) H)
theorem CallR.or {f : Value} {r r' : List V → Hp → VK → Prop} (h : CallR X f r) (h' : CallR X f r') : CallR X f (fun vs H Q => r vs H Q ∨ r' vs H Q) := fun pins s σ H xs us Q I rx q => q.elim (h pins s σ H xs us Q I rx) (h' pins s σ H xs us Q I rx)
theorem call_lenA : CallR X (.builtin "len") (rLenA X.K) := CallR.or call_len call_lenD
theorem fs_len : FnS K ct false (rLenA K) bLen := fun G H ds vs d Q s r e o => by
  unfold bLen at e
  split at e
  · cases e
    obtain ⟨v, rfl, q0⟩ := rds1 r
    obtain ⟨p, vs, rfl, hp, rv⟩ := q0.lst_inv s
    refine .inl ⟨_, _, rfl, .inl ⟨vs, .inl (.inl hp), rv.len⟩, o.val s (.int _)⟩
  · cases e
    obtain ⟨v, rfl, q0⟩ := rds1 r
    obtain ⟨p, vs, rfl, hp, _, rv⟩ := q0.tup_inv s
    refine .inl ⟨_, _, rfl, .inr ⟨vs, .inl (.inl hp), rv.len⟩, o.val s (.int _)⟩
  · cases e
    obtain ⟨v, rfl, q0⟩ := rds1 r
    obtain ⟨p, vs, rfl, hp, _, rv⟩ := q0.fls_inv s
    refine .inl ⟨_, _, rfl, .inl ⟨vs, hp, rv.len⟩, o.val s (.int _)⟩
  · split at e
    · rename_i x hl
      cases e
      obtain ⟨v, rfl, q0⟩ := rds1 r
      rw [q0.str_inv]
      exact .inl ⟨_, _, rfl, ⟨Nat.le_trans hl million, rfl⟩, o.val s (.int _)⟩
    · cases e
  · cases e
    obtain ⟨v, rfl, q0⟩ := rds1 r
    obtain ⟨p, vs, rfl, hp, rv⟩ := q0.dK_inv s
    refine .inr ⟨_, _, rfl, hp, ?_⟩
    rw [← rv.len]
    exact o.val s (.int _)
  · cases e
def bInt : List D → Option D
  | [.int i] => some (.int i)
  | [.str x] => match PySem.intText? x with
    | some n => if x.length ≤ 640 then some (.int n) else none
    | none => none
  | _ => none
theorem call_intA : CallR X (.type "int") (fun xs H Q => ((∃ i, xs = [.int i] ∧ Q (.int i) H) ∨ ∃ k, xs = [.bl k] ∧ Q (.int (if k then 1 else 0)) H) ∨ (∃ a n, xs = [.str a] ∧ PySem.intText? a = some n ∧ a.length ≤ 640 ∧ Q (.int n) H)) := CallR.or call_int1 call_int_str
theorem fs_int : FnS K ct false (fun xs H Q => ((∃ i, xs = [.int i] ∧ Q (.int i) H) ∨ ∃ k, xs = [.bl k] ∧ Q (.int (if k then 1 else 0)) H) ∨ (∃ a n, xs = [.str a] ∧ PySem.intText? a = some n ∧ a.length ≤ 640 ∧ Q (.int n) H)) bInt := fun G H ds vs d Q s r e o => by
  unfold bInt at e
  split at e
  · cases e
    obtain ⟨v, rfl, q0⟩ := rds1 r
    rw [q0.int_inv]
    exact .inl (.inl ⟨_, rfl, o.val s (.int _)⟩)
  · split at e
    · rename_i x n hx
      split at e
      · rename_i hl
        cases e
        obtain ⟨v, rfl, q0⟩ := rds1 r
        rw [q0.str_inv]
        exact .inr ⟨_, _, rfl, hx, hl, o.val s (.int _)⟩
      · cases e
    · cases e
  · cases e
def bAbs : List D → Option D
  | [.int i] => some (.int (if i < 0 then -i else i))
  | _ => none
theorem fs_abs : FnS K ct false (fun xs H Q => ∃ i, xs = [.int i] ∧ Q (.int (if i < 0 then -i else i)) H) bAbs := fun G H ds vs d Q s r e o => by
  unfold bAbs at e
  split at e
  · cases e
    obtain ⟨v, rfl, q0⟩ := rds1 r
    rw [q0.int_inv]
    exact ⟨_, rfl, o.val s (.int _)⟩
  · cases e
def bList : List D → Option D
  | [.lst xs] => some (.lst xs)
  | [.tup xs] => some (.lst xs)
  | _ => none
theorem fs_list : FnS K ct true (fun xs H Q => ∃ p ys, xs = [.ref p] ∧ (SqL K H p ys ∨ SqT K H p ys) ∧ ∀ l, H l = none → Q (.ref l) (upd H l (.lst ys))) bList := fun G H ds vs d Q s r e o => by
  unfold bList at e
  split at e
  · cases e
    obtain ⟨v, rfl, q0⟩ := rds1 r
    obtain ⟨p, vs, rfl, hp, rv⟩ := q0.lst_inv s
    exact ⟨p, vs, rfl, .inl (.inl (.inl hp)), fun l hl => o.newL s hl rv⟩
  · cases e
    obtain ⟨v, rfl, q0⟩ := rds1 r
    obtain ⟨p, vs, rfl, hp, _, rv⟩ := q0.tup_inv s
    exact ⟨p, vs, rfl, .inr (.inl (.inl hp)), fun l hl => o.newL s hl rv⟩
  · cases e
def bTuple : List D → Option D
  | [.lst xs] => some (.tup xs)
  | [.tup xs] => some (.tup xs)
  | _ => none
theorem fs_tuple : FnS K ct false (fun xs H Q => ∃ p ys, xs = [.ref p] ∧ ((SqL K H p ys ∧ ∀ l, H l = none → Q (.ref l) (upd H l (.tup ys))) ∨ (SqT K H p ys ∧ Q (.ref p) H))) bTuple := fun G H ds vs d Q s r e o => by
  unfold bTuple at e
  split at e
  · cases e
    obtain ⟨v, rfl, q0⟩ := rds1 r
    obtain ⟨p, vs, rfl, hp, rv⟩ := q0.lst_inv s
    exact ⟨p, vs, rfl, .inl ⟨.inl (.inl hp), fun l hl => o.newT s hl rv⟩⟩
  · cases e
    obtain ⟨v, rfl, q0⟩ := rds1 r
    obtain ⟨p, vs, rfl, hp, gp, rv⟩ := q0.tup_inv s
    exact ⟨p, vs, rfl, .inr ⟨.inl (.inl hp), o.val s (.tup gp rv)⟩⟩
  · cases e
def unInts : List D → Option (List Int)
  | [] => some []
  | .int i :: r => (unInts r).map (i :: ·)
  | _ :: _ => none
theorem unInts_eq : ∀ {xs : List D} {ns : List Int}, unInts xs = some ns → xs = ns.map D.int
  | [], ns, h => by cases h; rfl
  | d :: r, ns, h => by
    cases d with
    | int i =>
      unfold unInts at h
      cases e : unInts r with
      | none => rw [e] at h; cases h
      | some ms => rw [e] at h; cases h; rw [unInts_eq e]; rfl
    | _ => cases h
theorem unInts_map (ns : List Int) : unInts (ns.map D.int) = some ns := by
  induction ns with
  | nil => rfl
  | cons n ns ih => show (unInts (ns.map D.int)).map (n :: ·) = _; rw [ih]; rfl
def unBls : List D → Option (List Bool)
  | [] => some []
  | .bl i :: r => (unBls r).map (i :: ·)
  | _ :: _ => none
theorem unBls_eq : ∀ {xs : List D} {ns : List Bool}, unBls xs = some ns → xs = ns.map D.bl
  | [], ns, h => by cases h; rfl
  | d :: r, ns, h => by
    cases d with
    | bl i =>
      unfold unBls at h
      cases e : unBls r with
      | none => rw [e] at h; cases h
      | some ms => rw [e] at h; cases h; rw [unBls_eq e]; rfl
    | _ => cases h
theorem unBls_map (ns : List Bool) : unBls (ns.map D.bl) = some ns := by
  induction ns with
  | nil => rfl
  | cons n ns ih => show (unBls (ns.map D.bl)).map (n :: ·) = _; rw [ih]; rfl
def bAll : List D → Option D
  | [.lst xs] => (unBls xs).map fun bs => .bl (bs.all id)
  | _ => none
theorem fs_all : FnS K ct false (rAll K) bAll := fun G H ds vs d Q s r e o => by
  unfold bAll at e
  split at e
  · rename_i xs
    cases z : unBls xs with
    | none => rw [z] at e; cases e
    | some bs =>
      rw [z] at e; cases e
      obtain ⟨v, rfl, q0⟩ := rds1 r
      obtain ⟨p, vs, rfl, hp, rv⟩ := q0.lst_inv s
      rw [unBls_eq z] at rv
      have := rv.bls
      subst this
      exact ⟨p, bs, rfl, .inl (.inl hp), o.val s (.bl _)⟩
  · cases e
def bAny : List D → Option D
  | [.lst xs] => (unBls xs).map fun bs => .bl (bs.any id)
  | _ => none
theorem fs_any : FnS K ct false (rAny K) bAny := fun G H ds vs d Q s r e o => by
  unfold bAny at e
  split at e
  · rename_i xs
    cases z : unBls xs with
    | none => rw [z] at e; cases e
    | some bs =>
      rw [z] at e; cases e
      obtain ⟨v, rfl, q0⟩ := rds1 r
      obtain ⟨p, vs, rfl, hp, rv⟩ := q0.lst_inv s
      rw [unBls_eq z] at rv
      have := rv.bls
      subst this
      exact ⟨p, bs, rfl, .inl (.inl hp), o.val s (.bl _)⟩
  · cases e
def bSum : List D → Option D
  | [.lst xs] => (unInts xs).map fun ns => .int ns.sum
  | _ => none
theorem fs_sum : FnS K ct false (rSum K) bSum := fun G H ds vs d Q s r e o => by
  unfold bSum at e
  split at e
  · rename_i xs
    cases z : unInts xs with
    | none => rw [z] at e; cases e
    | some ns =>
      rw [z] at e; cases e
      obtain ⟨v, rfl, q0⟩ := rds1 r
      obtain ⟨p, vs, rfl, hp, rv⟩ := q0.lst_inv s
      rw [unInts_eq z] at rv
      have := rv.ints
      subst this
      exact ⟨p, ns, rfl, .inl (.inl hp), o.val s (.int _)⟩
  · cases e
def maxL : Int → List Int → Int
  | m, [] => m
  | m, n :: r => maxL (if m < n then n else m) r
def minL : Int → List Int → Int
  | m, [] => m
  | m, n :: r => minL (if n < m then n else m) r
theorem maxL_mem : ∀ (m : Int) (ns : List Int), (maxL m ns = m ∨ maxL m ns ∈ ns) ∧ m ≤ maxL m ns ∧ ∀ y ∈ ns, y ≤ maxL m ns
  | m, [] => ⟨.inl rfl, Int.le_refl _, fun _ h => nomatch h⟩
  | m, n :: r => by
    obtain ⟨h1, h2, h3⟩ := maxL_mem (if m < n then n else m) r
    unfold maxL
    refine ⟨?_, ?_, fun y hy => ?_⟩
    · rcases h1 with h | h
      · rw [h]; split
        · exact .inr (List.mem_cons_self)
        · exact .inl rfl
      · exact .inr (List.mem_cons_of_mem _ h)
    · by_cases hh : m < n
      · simp only [hh, if_true] at h2 ⊢; omega
      · simp only [hh, if_false] at h2 ⊢; omega
    · rcases List.mem_cons.mp hy with rfl | hy
      · by_cases hh : m < y
        · simp only [hh, if_true] at h2 ⊢; exact h2
        · simp only [hh, if_false] at h2 ⊢; omega
      · exact h3 y hy
theorem minL_mem : ∀ (m : Int) (ns : List Int), (minL m ns = m ∨ minL m ns ∈ ns) ∧ minL m ns ≤ m ∧ ∀ y ∈ ns, minL m ns ≤ y
  | m, [] => ⟨.inl rfl, Int.le_refl _, fun _ h => nomatch h⟩
  | m, n :: r => by
    obtain ⟨h1, h2, h3⟩ := minL_mem (if n < m then n else m) r
    unfold minL
    refine ⟨?_, ?_, fun y hy => ?_⟩
    · rcases h1 with h | h
      · rw [h]; split
        · exact .inr (List.mem_cons_self)
        · exact .inl rfl
      · exact .inr (List.mem_cons_of_mem _ h)
    · by_cases hh : n < m
      · simp only [hh, if_true] at h2 ⊢; omega
      · simp only [hh, if_false] at h2 ⊢; omega
    · rcases List.mem_cons.mp hy with rfl | hy
      · by_cases hh : y < m
        · simp only [hh, if_true] at h2 ⊢; exact h2
        · simp only [hh, if_false] at h2 ⊢; omega
      · exact h3 y hy
def bMax : List D → Option D
  | [.lst xs] => match unInts xs with
    | some (n :: r) => some (.int (maxL n r))
    | _ => none
  | [.int i, .int j] => some (.int (if j > i then j else i))
  | _ => none
def bMin : List D → Option D
  | [.lst xs] => match unInts xs with
    | some (n :: r) => some (.int (minL n r))
    | _ => none
  | [.int i, .int j] => some (.int (if j < i then j else i))
  | _ => none
theorem call_maxA (hc : X.calm = true) : CallR X (.builtin "max") (fun xs H Q => (rMax X.K xs H Q) ∨ ∃ i j, xs = [.int i, .int j] ∧ Q (.int (if j > i then j else i)) H) := CallR.or (cr_max hc) (call_max2 hc)
theorem call_minA (hc : X.calm = true) : CallR X (.builtin "min") (fun xs H Q => (rMin X.K xs H Q) ∨ ∃ i j, xs = [.int i, .int j] ∧ Q (.int (if j < i then j else i)) H) := CallR.or (cr_min hc) (call_min2 hc)
theorem fs_max : FnS K ct false (fun xs H Q => (rMax K xs H Q) ∨ ∃ i j, xs = [.int i, .int j] ∧ Q (.int (if j > i then j else i)) H) bMax := fun G H ds vs d Q s r e o => by
  unfold bMax at e
  split at e
  · rename_i xs
    split at e
    · rename_i n ns z
      cases e
      obtain ⟨v, rfl, q0⟩ := rds1 r
      obtain ⟨p, vs, rfl, hp, rv⟩ := q0.lst_inv s
      rw [unInts_eq z] at rv
      have := rv.ints
      subst this
      refine .inl ⟨p, n :: ns, rfl, .inl (.inl hp), by simp, fun m hm hle => ?_⟩
      obtain ⟨h1, h2, h3⟩ := maxL_mem n ns
      have : m = maxL n ns := by
        have a1 : maxL n ns ≤ m := by
          rcases h1 with h | h
          · rw [h]; exact hle n List.mem_cons_self
          · exact hle _ (List.mem_cons_of_mem _ h)
        have a2 : m ≤ maxL n ns := by
          rcases List.mem_cons.mp hm with rfl | hm
          · exact h2
          · exact h3 m hm
        omega
      rw [this]
      exact o.val s (.int _)
    · cases e
  · cases e
    obtain ⟨v, w, rfl, r1, r2⟩ := rds2 r
    rw [r1.int_inv, r2.int_inv]
    exact .inr ⟨_, _, rfl, o.val s (.int _)⟩
  · cases e
theorem fs_min : FnS K ct false (fun xs H Q => (rMin K xs H Q) ∨ ∃ i j, xs = [.int i, .int j] ∧ Q (.int (if j < i then j else i)) H) bMin := fun G H ds vs d Q s r e o => by
  unfold bMin at e
  split at e
  · rename_i xs
    split at e
    · rename_i n ns z
      cases e
      obtain ⟨v, rfl, q0⟩ := rds1 r
      obtain ⟨p, vs, rfl, hp, rv⟩ := q0.lst_inv s
      rw [unInts_eq z] at rv
      have := rv.ints
      subst this
      refine .inl ⟨p, n :: ns, rfl, .inl (.inl hp), by simp, fun m hm hle => ?_⟩
      obtain ⟨h1, h2, h3⟩ := minL_mem n ns
      have : m = minL n ns := by
        have a1 : m ≤ minL n ns := by
          rcases h1 with h | h
          · rw [h]; exact hle n List.mem_cons_self
          · exact hle _ (List.mem_cons_of_mem _ h)
        have a2 : minL n ns ≤ m := by
          rcases List.mem_cons.mp hm with rfl | hm
          · exact h2
          · exact h3 m hm
        omega
      rw [this]
      exact o.val s (.int _)
    · cases e
  · cases e
    obtain ⟨v, w, rfl, r1, r2⟩ := rds2 r
    rw [r1.int_inv, r2.int_inv]
    exact .inr ⟨_, _, rfl, o.val s (.int _)⟩
  · cases e
/-- insertion sort of ints -/
def insI (n : Int) : List Int → List Int
  | [] => [n]
  | m :: r => if n ≤ m then n :: m :: r else m :: insI n r
def sortI : List Int → List Int
  | [] => []
  | n :: r => insI n (sortI r)
theorem insI_perm (n : Int) : ∀ l : List Int, (insI n l).Perm (n :: l)
  | [] => .refl _
  | m :: r => by
    unfold insI
    split
    · exact .refl _
    · exact (List.Perm.cons m (insI_perm n r)).trans (List.Perm.swap n m r)
theorem sortI_perm : ∀ l : List Int, (sortI l).Perm l
  | [] => .refl _
  | n :: r => (insI_perm n (sortI r)).trans (List.Perm.cons n (sortI_perm r))
theorem insI_sorted (n : Int) : ∀ {l : List Int}, l.Pairwise (· ≤ ·) → (insI n l).Pairwise (· ≤ ·)
  | [], _ => by unfold insI; simp
  | m :: r, h => by
    unfold insI
    split
    · rename_i hh
      refine List.Pairwise.cons (fun y hy => ?_) h
      rcases List.mem_cons.mp hy with rfl | hy
      · exact hh
      · exact Int.le_trans hh ((List.pairwise_cons.mp h).1 y hy)
    · rename_i hh
      refine List.Pairwise.cons (fun y hy => ?_) (insI_sorted n (List.pairwise_cons.mp h).2)
      rcases List.mem_cons.mp ((insI_perm n r).mem_iff.mp hy) with rfl | hy
      · omega
      · exact (List.pairwise_cons.mp h).1 y hy
theorem sortI_sorted : ∀ l : List Int, (sortI l).Pairwise (· ≤ ·)
  | [] => .nil
  | n :: r => insI_sorted n (sortI_sorted r)
theorem sorted_uniq {a b : List Int} (p : a.Perm b) (ha : a.Pairwise (· ≤ ·)) (hb : b.Pairwise (· ≤ ·)) : a = b :=
  p.eq_of_pairwise (fun x y _ _ h1 h2 => Int.le_antisymm h1 h2) ha hb
def bSorted : List D → Option D
  | [.lst xs] => (unInts xs).map fun ns => .lst ((sortI ns).map D.int)
  | _ => none
theorem fs_sorted : FnS K ct true (rSortedI K) bSorted := fun G H ds vs d Q s r e o => by
  unfold bSorted at e
  split at e
  · rename_i xs
    cases z : unInts xs with
    | none => rw [z] at e; cases e
    | some ns =>
      rw [z] at e; cases e
      obtain ⟨v, rfl, q0⟩ := rds1 r
      obtain ⟨p, vs, rfl, hp, rv⟩ := q0.lst_inv s
      rw [unInts_eq z] at rv
      have := rv.ints
      subst this
      refine ⟨p, ns, rfl, .inl (.inl hp), fun ns' q pm sr hq => ?_⟩
      have : ns' = sortI ns := sorted_uniq (pm.trans (sortI_perm ns).symm) sr (sortI_sorted ns)
      subst this
      exact o.newL s hq RVs.ofInts
  · cases e
end
end Dn

namespace Dn
open PySem PySem.Spec PyProof.Rows L2
/-! several at once: a, b = x, y -/
inductive RXF (K : PySem.W.Frag) (ct : Nat → Addr) (G H : Hp) : List Bool → List D → List V → Prop where
  | nil : RXF K ct G H [] [] []
  | cons {f : Bool} {d : D} {v : V} {fs : List Bool} {ds : List D} {vs : List V} : (f = true → ROwn K ct G H d v ∧ ∀ w, (true, w) ∈ fs.zip vs → w ≠ v) → (f = false → RV K ct G d v) → RXF K ct G H fs ds vs → RXF K ct G H (f :: fs) (d :: ds) (v :: vs)
inductive RAF where
  | ok (ds : List D) (env : Env) | ex (x : Ex) (env : Env) | no
abbrev DAF := Env → RAF
def pNil : DAF := fun env => .ok [] env
def pCons (a : DE) (r : DAF) : DAF := fun env => match a env with
  | .ok (.val x) e1 => match r e1 with
    | .ok xs e2 => .ok (x :: xs) e2
    | .ex q e2 => .ex q e2
    | .no => .no
  | .ok _ _ => .no
  | .ex q e1 => .ex q e1
  | .no => .no
def PostAF (K : PySem.W.Frag) (ct : Nat → Addr) (c : Cf) (W : WX) (fs : List Bool) (G H : Hp) (σ : L2.St) (Q : List V → Hp → Prop) : RAF → Prop
  | .ok ds env' => ∀ G' H' vs, Stp c σ G H G' H' → Rel K ct c G' H' env' σ → RXF K ct G' H' fs ds vs → (∀ w, (true, w) ∈ fs.zip vs → ∀ p, w = .ref p → H p = none) → Q vs H'
  | .ex x env' => ∀ G' H' cls dd, Stp c σ G H G' H' → Rel K ct c G' H' env' σ → RE K ct G' x cls dd → W cls dd σ H'
  | .no => False
def SimAF (K : PySem.W.Frag) (ct : Nat → Addr) (c : Cf) (W : WX) (fs : List Bool) (t : TA) (e : DAF) : Prop := ∀ G H env σ Q, Rel K ct c G H env σ → PostAF K ct c W fs G H σ Q (e env) → t σ H Q
def JAF (X : Cx) (ct : Nat → Addr) (c : Cf) (W : WX) (fs : List Bool) (es : List Expr) (d : DAF) : Prop := ∃ t, PA X es t ∧ SimAF X.K ct c W fs t d
section
variable {X : Cx} {ct : Nat → Addr} {c : Cf} {W : WX} {K : PySem.W.Frag}
theorem jf_nil : JAF X ct c W [] [] pNil := ⟨_, pa_nil, fun G H env σ Q r p => p G H [] .refl r .nil fun w h => nomatch h⟩
theorem jf_cons {f : Bool} {fs : List Bool} {e : Expr} {es : List Expr} {d : DE} {r : DAF} (he : JE X ct c W f e d) (hr : JAF X ct c W fs es r) (hs : starEach (e :: es) X.env = (false, eval e X.env) :: starEach es X.env := by rfl) : JAF X ct c W (f :: fs) (e :: es) (pCons d r) := by
  obtain ⟨ta, pa, sa⟩ := he
  obtain ⟨tb, pb, sb⟩ := hr
  refine ⟨_, pa_cons pa pb hs, fun G H env σ Q rel p => ?_⟩
  refine sa G H env σ _ rel ?_
  unfold pCons at p
  cases ea : d env with
  | no => rw [ea] at p; exact p
  | ex q e1 => rw [ea] at p; exact p
  | ok x e1 =>
    rw [ea] at p
    cases x with
    | slot i => exact p.elim
    | val x =>
      intro G1 H1 v1 s1 R1 X1 N1
      refine sb G1 H1 e1 σ _ R1 ?_
      dsimp only at p
      cases eb : r e1 with
      | no => rw [eb] at p; exact p
      | ex q e2 => rw [eb] at p; exact fun G' H' cls dd s R e => p G' H' cls dd (s1.trans s) R e
      | ok y e2 =>
        rw [eb] at p
        intro G2 H2 vs s2 R2 X2 N2
        refine p G2 H2 _ (s1.trans s2) R2 (.cons (fun z => ?_) (fun z => ?_) X2) fun w hw q e => ?_
        · subst z
          have h1 : ROwn X.K ct G1 H1 x v1 := X1
          obtain ⟨q, o, rfl, hq, gq⟩ := h1.top
          have nt : ∀ i, i ∈ c.own → σ[i]? ≠ some (some (.ref q)) := fun i hi hσ => by
            obtain ⟨_, hz⟩ := rel.own_ref hi hσ
            rw [N1 rfl q rfl] at hz; cases hz
          refine ⟨h1.step s2.g (fun u hu => s2.h q u hu nt) ?_, fun w hw e => ?_⟩
          · cases z : G2 q with
            | none => rfl
            | some u =>
              rcases s2.n q u z with y | y | ⟨i, y1, y2⟩
              · rw [gq] at y; cases y
              · rw [hq] at y; cases y
              · exact absurd y2 (nt i y1)
          · rw [N2 w hw q e] at hq; cases hq
        · subst z
          exact RV.mono s2.g X1
        · rw [List.zip_cons_cons] at hw
          rcases List.mem_cons.mp hw with z | z
          · cases z
            exact N1 rfl q e
          · exact rel.back s1 R1 (N2 w z q e)
def setsE : Env → List Nat → List D → Env
  | env, i :: is, d :: ds => setsE (env.set i (some d)) is ds
  | env, _, _ => env
def setsS : L2.St → List Nat → List V → L2.St
  | σ, i :: is, v :: vs => setsS (σ.set i (some v)) is vs
  | σ, _, _ => σ
def okSl (own : List Nat) : List Nat → List Bool → Bool
  | [], [] => true
  | i :: is, f :: fs => (decide (i ∈ own) == f) && (!f || decide (i ≠ 0)) && okSl own is fs
  | _, _ => false
theorem Rel.sets : ∀ {is : List Nat} {fs : List Bool} {ds : List D} {vs : List V} {G H : Hp} {env : Env} {σ : L2.St}, Rel K ct c G H env σ → RXF K ct G H fs ds vs → okSl c.own is fs = true → is.all (fun i => c.pins.all fun q => q.1 != i) = true → (∀ w, (true, w) ∈ fs.zip vs → (∀ p, w = .ref p → c.H0 p = none) ∧ ∀ j, j ∈ c.own → σ[j]? ≠ some (some w)) → Rel K ct c G H (setsE env is ds) (setsS σ is vs)
  | [], _, _, _, G, H, env, σ, r, x, ok, _, n => by unfold setsE setsS; exact r
  | i :: is, _, _, _, G, H, env, σ, r, .nil, ok, _, n => by unfold okSl at ok; cases ok
  | i :: is, _, _, _, G, H, env, σ, r, @RXF.cons _ _ _ _ f d v fs ds vs h1 h2 x, ok, hpn, n => by
    rw [List.all_cons, Bool.and_eq_true] at hpn
    obtain ⟨pn1, pn2⟩ := hpn
    unfold okSl at ok
    rw [Bool.and_eq_true, Bool.and_eq_true] at ok
    obtain ⟨⟨o1, o2⟩, o3⟩ := ok
    unfold setsE setsS
    cases f with
    | false =>
      have hi : i ∉ c.own := by
        have : decide (i ∈ c.own) = false := by simpa using o1
        exact of_decide_eq_false this
      refine Rel.sets (r.set hi (h2 rfl)) x o3 pn2 fun w hw => ?_
      obtain ⟨a, b⟩ := n w (by rw [List.zip_cons_cons]; exact List.mem_cons_of_mem _ hw)
      refine ⟨a, fun j hj => ?_⟩
      rw [List.getElem?_set_ne (fun z => hi (by rw [z]; exact hj))]
      exact b j hj
    | true =>
      have hi : i ∈ c.own := by
        have : decide (i ∈ c.own) = true := by simpa using o1
        exact of_decide_eq_true this
      have h0 : i ≠ 0 := by simpa using o2
      obtain ⟨a, b⟩ := n v (by rw [List.zip_cons_cons]; exact List.mem_cons_self)
      obtain ⟨e1, e2⟩ := h1 rfl
      refine Rel.sets (r.setN hi (.inr h0) pn1 e1 a b) x o3 pn2 fun w hw => ?_
      obtain ⟨a', b'⟩ := n w (by rw [List.zip_cons_cons]; exact List.mem_cons_of_mem _ hw)
      refine ⟨a', fun j hj hσ => ?_⟩
      by_cases z : i = j
      · subst z
        have hl : i < σ.length := by
          obtain ⟨h, _⟩ := List.getElem?_eq_some_iff.mp hσ
          rw [List.length_set] at h; exact h
        rw [List.getElem?_set_self hl] at hσ
        cases hσ
        exact e2 _ hw rfl
      · rw [List.getElem?_set_ne z] at hσ
        exact b' j hj hσ
def sPar (is : List Nat) (a : DAF) : DS := fun env => match a env with
  | .ok ds e => .nx (setsE e is ds)
  | .ex q e => .ex q e
  | .no => .no
theorem RXF.len {G H : Hp} {fs : List Bool} {ds : List D} {vs : List V} (x : RXF K ct G H fs ds vs) : vs.length = fs.length := by
  induction x with
  | nil => rfl
  | cons _ _ _ ih => rw [List.length_cons, List.length_cons, ih]
theorem RXF.refs {G H : Hp} {fs : List Bool} {ds : List D} {vs : List V} (x : RXF K ct G H fs ds vs) : ∀ w, (true, w) ∈ fs.zip vs → ∃ p, w = .ref p := by
  induction x with
  | nil => intro w h; simp at h
  | cons h1 _ _ ih =>
    intro w h
    rw [List.zip_cons_cons] at h
    rcases List.mem_cons.mp h with z | z
    · cases z
      obtain ⟨p, _, e, _, _⟩ := (h1 rfl).1.top
      exact ⟨p, e⟩
    · exact ih w z
theorem sim_par {is : List Nat} {fs : List Bool} {ta : TA} {a : DAF} (Qf : Ends → L2.St → List V → Hp → Prop) (hok : okSl c.own is fs = true) (hpn : is.all (fun i => c.pins.all fun q => q.1 != i) = true) (hq : ∀ E σ vs H1, vs.length = fs.length → E.nx (setsS σ is vs) H1 → Qf E σ vs H1) (ha : SimAF K ct c W fs ta a) : SimS K ct c W (fun E σ H => ta σ H (Qf E σ)) (sPar is a) := fun G H env σ E r p => by
  refine ha G H env σ _ r ?_
  unfold sPar at p
  cases ea : a env with
  | no => rw [ea] at p; exact p
  | ex q e1 => rw [ea] at p; exact fun G1 H1 cls dd s R h => p G1 H1 σ cls dd s.g R h
  | ok ds e1 =>
    rw [ea] at p
    intro G1 H1 vs s R x n
    refine hq E σ vs H1 x.len (p G1 H1 _ s.g (R.sets x hok hpn fun w hw => ⟨fun q e => r.h0 (n w hw q e), fun j hj hσ => ?_⟩))
    obtain ⟨q, rfl⟩ := x.refs w hw
    obtain ⟨o, hq⟩ := r.own_ref hj hσ
    rw [n _ hw q rfl] at hq; cases hq
theorem len2 {α : Type} {l : List α} (h : l.length = 2) : ∃ a b, l = [a, b] := by
  match l, h with
  | [a, b], _ => exact ⟨a, b, rfl⟩
theorem len3 {α : Type} {l : List α} (h : l.length = 3) : ∃ a b c, l = [a, b, c] := by
  match l, h with
  | [a, b, c], _ => exact ⟨a, b, c, rfl⟩
theorem js_par2 {f g : Bool} {i j : Nat} {x y : Str} {a b : Expr} {d : DAF} {px py pt pos : Pos} {kt k2 pt2} (hc : X.calm = true) (hN : X.N.Nodup) (hok : okSl c.own [i, j] [f, g] = true) (ha : JAF X ct c W [f, g] [a, b] d) (hij : i ≠ j := by decide) (hpn : [i, j].all (fun i => c.pins.all fun q => q.1 != i) = true := by rfl) (hi : X.N[i]? = some x := by rfl) (hj : X.N[j]? = some y := by rfl)
    (hx : X.env.scope.names.lookup x = some .local := by rfl) (hy : X.env.scope.names.lookup y = some .local := by rfl)
    (hw : swappedStores [.Tuple [.Name x px, .Name y py] kt pt] (.Tuple [a, b] k2 pt2) X.env = pure (some [x, y]) := by rfl)
    (hs : swapsWithSole [.Tuple [.Name x px, .Name y py] kt pt] (.Tuple [a, b] k2 pt2) pos.line X.env = pure false := by rfl) :
    JS X ct c W (.Assign [.Tuple [.Name x px, .Name y py] kt pt] (.Tuple [a, b] k2 pt2) pos) (sPar [i, j] d) := by
  obtain ⟨t, p1, s1⟩ := ha
  refine ⟨_, ps_par hc hN hi hj hij hx hy p1 hw hs, sim_par (is := [i, j]) _ hok hpn (fun E σ vs H1 hl h => ?_) s1⟩
  obtain ⟨v, w, rfl⟩ := len2 hl
  exact ⟨v, w, rfl, h⟩
theorem js_par3 {f g k : Bool} {i j l : Nat} {x y z : Str} {a b e : Expr} {d : DAF} {px py pz pt pos : Pos} {kt k2 pt2} (hc : X.calm = true) (hN : X.N.Nodup) (hok : okSl c.own [i, j, l] [f, g, k] = true) (ha : JAF X ct c W [f, g, k] [a, b, e] d) (hij : i ≠ j := by decide) (hpn : [i, j, l].all (fun i => c.pins.all fun q => q.1 != i) = true := by rfl) (hil : i ≠ l := by decide) (hjl : j ≠ l := by decide) (hi : X.N[i]? = some x := by rfl) (hj : X.N[j]? = some y := by rfl) (hl : X.N[l]? = some z := by rfl)
    (hx : X.env.scope.names.lookup x = some .local := by rfl) (hy : X.env.scope.names.lookup y = some .local := by rfl) (hz : X.env.scope.names.lookup z = some .local := by rfl)
    (hw : swappedStores [.Tuple [.Name x px, .Name y py, .Name z pz] kt pt] (.Tuple [a, b, e] k2 pt2) X.env = pure (some [x, y, z]) := by rfl)
    (hs : swapsWithSole [.Tuple [.Name x px, .Name y py, .Name z pz] kt pt] (.Tuple [a, b, e] k2 pt2) pos.line X.env = pure false := by rfl) :
    JS X ct c W (.Assign [.Tuple [.Name x px, .Name y py, .Name z pz] kt pt] (.Tuple [a, b, e] k2 pt2) pos) (sPar [i, j, l] d) := by
  obtain ⟨t, p1, s1⟩ := ha
  refine ⟨_, ps_par3 hc hN hi hj hl hij hil hjl hx hy hz p1 hw hs, sim_par (is := [i, j, l]) _ hok hpn (fun E σ vs H1 hl h => ?_) s1⟩
  obtain ⟨v, w, u, rfl⟩ := len3 hl
  exact ⟨v, w, u, rfl, h⟩
/-- .. with names that are cells: through the tuple itself -/
theorem js_parT {is : List Nat} {fs : List Bool} {ts es : List Expr} {u : TGs} {d : DAF} {pt pos : Pos} {kt k2 pt2} (hc : X.calm = true) (hok : okSl c.own is fs = true) (hm : fs.length ≤ 100) (ha : JAF X ct c W fs es d) (hg : PGs X ts u) (hu : ∀ vs σ H Q, vs.length = fs.length → Q (setsS σ is vs) H → u vs σ H Q) (hpn : is.all (fun i => c.pins.all fun q => q.1 != i) = true := by rfl)
    (hn : (assignEach ts X.env).length = fs.length := by rfl) (hst : (assignEach ts X.env).findIdx? (·.1) = none := by rfl)
    (hs : swapsWithSole [.Tuple ts kt pt] (.Tuple es k2 pt2) pos.line X.env = pure false := by rfl) (hw : swappedStores [.Tuple ts kt pt] (.Tuple es k2 pt2) X.env = pure none := by rfl)
    (h1 : (assignEach [.Tuple ts kt pt] X.env).map (·.2) = [assign (.Tuple ts kt pt) X.env] := by rfl) :
    JS X ct c W (.Assign [.Tuple ts kt pt] (.Tuple es k2 pt2) pos) (sPar is d) := by
  obtain ⟨t, p1, s1⟩ := ha
  refine ⟨_, ps_asg (pe_tup p1) (pg_tup hc hg hn hst) hs hw h1, fun G H env σ E r p => ?_⟩
  refine s1 G H env σ _ r ?_
  unfold sPar at p
  cases ea : d env with
  | no => rw [ea] at p; exact p
  | ex q e1 => rw [ea] at p; exact fun G1 H1 cls dd s R h => p G1 H1 σ cls dd s.g R h
  | ok ds e1 =>
    rw [ea] at p
    intro G1 H1 vs s R x n
    refine ⟨by rw [x.len]; exact Nat.le_trans (Nat.le_trans hm (by decide)) million, fun T hT => ?_⟩
    refine ⟨T, vs, rfl, .inl (.inl upd_same), x.len, hu vs σ _ _ x.len ?_⟩
    have g := Grow.new (o := .tup vs) R.sub hT
    have R2 := R.grow g
    have x2 : RXF X.K ct (upd G1 T (.tup vs)) (upd H1 T (.tup vs)) fs ds vs := by
      clear n p hu hok hn s1 p1 ea hm
      revert hT g R2
      generalize (HO.tup vs) = oo
      intro hT g R2
      induction x with
      | nil => exact .nil
      | cons h1 h2 _ ih => exact .cons (fun z => ⟨by
          obtain ⟨q, o, e, hq, gq⟩ := (h1 z).1.top
          subst e
          exact (h1 z).1.step g.g (fun u hu => g.h _ _ hu) (by rw [upd_ne (fun e => by rw [e, hT] at hq; cases hq)]; exact gq), (h1 z).2⟩) (fun z => (h2 z).mono g.g) ih
    refine p _ _ _ (s.g.trans g.g) (R2.sets x2 hok hpn fun w hw => ⟨fun q e => r.h0 (n w hw q e), fun j hj hσ => ?_⟩)
    obtain ⟨q, rfl⟩ := x.refs w hw
    obtain ⟨o, hq⟩ := r.own_ref hj hσ
    rw [n _ hw q rfl] at hq; cases hq
/-! methods that change an own list -/
def dMut (i : Nat) (g : List D → List D → Option (D × D)) (a : DA) : DE := fun env => match look env i with
  | some (.lst _) => match a env with
    | .ok rvs e1 => match clean rvs with
      | some ds => match look e1 i with
        | some (.lst xs) => match g xs ds with
          | some (res, new) => .ok (.val res) (e1.set i (some new))
          | none => .no
        | _ => .no
      | none => .no
    | .ex q e1 => .ex q e1
    | .no => .no
  | _ => .no
def dMut0 (i : Nat) (g : List D → List D → Option (D × D)) : DE := fun env => match look env i with
  | some (.lst xs) => match g xs [] with
    | some (res, new) => .ok (.val res) (env.set i (some new))
    | none => .no
  | _ => .no
def MutS (K : PySem.W.Frag) (ct : Nat → Addr) (r : V → List V → Hp → VK → Prop) (g : List D → List D → Option (D × D)) : Prop :=
  ∀ G H p xs us ds vs res new Q, Same G H → H p = some (.lst us) → G p = none → RVs K ct G xs us → RVs K ct G ds vs → g xs ds = some (res, new) → (∀ o v, ROwn K ct G (upd H p o) new (.ref p) → RV K ct G res v → Q v (upd H p o)) → r (.ref p) vs H Q
theorem rel_mut {G H : Hp} {env : Env} {σ : L2.St} {i : Nat} {d : D} {p : Addr} {o : HO} (R : Rel K ct c G H env σ) (hi : i ∈ c.own) (hσ : σ[i]? = some (some (.ref p))) (gp : G p = none) (h : ROwn K ct G (upd H p o) d (.ref p)) : Stp c σ G H G (upd H p o) ∧ Rel K ct c G (upd H p o) (env.set i (some d)) σ :=
  ⟨⟨.refl _, fun q u e n => by rw [upd_ne (fun z => by rw [z] at n; exact n i hi hσ)]; exact e, fun _ _ e => .inl e⟩, R.write hi hσ gp h⟩
theorem own_lst {G H : Hp} {env : Env} {σ : L2.St} {i : Nat} {xs : List D} (R : Rel K ct c G H env σ) (hi : i ∈ c.own) (h : look env i = some (.lst xs)) : ∃ p us, σ[i]? = some (some (.ref p)) ∧ H p = some (.lst us) ∧ G p = none ∧ RVs K ct G xs us := by
  obtain ⟨v, hv, _, q⟩ := R.slot i _ (of_look h)
  obtain ⟨q1, _⟩ := (q hi).live (fun _ z => nomatch z)
  obtain ⟨p, o, rfl, _, _⟩ := q1.top
  obtain ⟨us, a, b, r⟩ := q1
  exact ⟨p, us, hv, a, b, r⟩
theorem je_mut {id : String} {i : Nat} {x : Str} {name : Str} {r : V → List V → Hp → VK → Prop} {g : List D → List D → Option (D × D)} {e : Expr} {es : List Expr} {a : DA} {pos apos cpos : Pos} (slot : Slot "list" name id) (hty : typeOf (.builtin id) = pure (.type "method_descriptor")) (hm : MtR X id r) (hs : MutS X.K ct r g) (hi : decide (i ∈ c.own) = true)
    (ha : JA X ct c W (e :: es) a) (hN : X.N[i]? = some x := by rfl) (hv : Vis X.env.scope x := by first | exact Or.inl rfl | exact Or.inr (Or.inl rfl) | exact Or.inr (Or.inr rfl)) (hd : (x == ("__debug__" : Str)) = false := by decide) (hcd : (x == ("__classdict__" : Str)) = false := by decide)
    (hbase : attributeBase (.Name x pos) name X.env (eval (.Name x pos) X.env) = eval (.Name x pos) X.env := by rfl)
    (hfew : ((backTo cpos (starEach (e :: es) X.env)).all (fun x => !x.1) && (backToKw cpos (keywordEach [] X.env)).all (fun x => x.1.isSome)
      && decide ((e :: es).length + ([] : List Keyword).length + (if ([] : List Keyword).isEmpty then 0 else 1) < 30)) = true := by rfl)
    (hline : (apos.endLine == cpos.line) = true := by rfl) (hst : starEach (e :: es) X.env = (false, eval e X.env) :: starEach es X.env := by rfl) (hplain : (backTo cpos (starEach es X.env)).any (·.1) = false := by rfl) :
    JE X ct c W false (.Call (.Attribute (.Name x pos) name apos) (e :: es) [] cpos) (dMut i g a) := by
  obtain ⟨ta, p1, s1⟩ := ha
  have hi := of_decide_eq_true hi
  refine ⟨_, pe_bm PySem.F.plainAttrs_list slot hty hm (pe_var hN hv hd hcd) p1 hbase hfew hline hst hplain, fun G H env σ Q r p => ?_⟩
  unfold dMut at p
  split at p
  · rename_i xs0 e0
    obtain ⟨q, us, hσ, hq, gq, rv⟩ := own_lst r hi e0
    refine ⟨.ref q, hσ, .inl ⟨rfl, us, .inl (.inl hq)⟩, s1 G H env σ _ r ?_⟩
    cases ea : a env with
    | no => rw [ea] at p; exact p
    | ex x e1 => rw [ea] at p; exact p
    | ok rvs e1 =>
      rw [ea] at p
      intro G1 H1 vs st R1 X1
      dsimp only at p
      cases z1 : clean rvs with
      | none => rw [z1] at p; exact p.elim
      | some ds =>
        rw [z1] at p
        dsimp only at p
        split at p
        · rename_i xs e2
          obtain ⟨q', us', hσ', hq', gq', rv'⟩ := own_lst R1 hi e2
          rw [hσ] at hσ'
          cases hσ'
          cases z3 : g xs ds with
          | none => rw [z3] at p; exact p.elim
          | some y =>
            rw [z3] at p
            exact hs G1 H1 q xs us' ds vs y.1 y.2 Q R1.sub hq' gq' rv' (clean_rvs X1 z1) z3 fun o v h1 h2 => by
              obtain ⟨t1, t2⟩ := rel_mut R1 hi hσ gq' h1
              exact p G1 _ v (st.trans t1) t2 h2 (fun z => nomatch z)
        · exact p.elim
  · exact p.elim
theorem je_mut0 {id : String} {i : Nat} {x : Str} {name : Str} {r : V → List V → Hp → VK → Prop} {g : List D → List D → Option (D × D)} {pos apos cpos : Pos} (slot : Slot "list" name id) (hty : typeOf (.builtin id) = pure (.type "method_descriptor")) (hm : MtR X id r) (hs : MutS X.K ct r g) (hi : decide (i ∈ c.own) = true)
    (hN : X.N[i]? = some x := by rfl) (hv : Vis X.env.scope x := by first | exact Or.inl rfl | exact Or.inr (Or.inl rfl) | exact Or.inr (Or.inr rfl)) (hd : (x == ("__debug__" : Str)) = false := by decide) (hcd : (x == ("__classdict__" : Str)) = false := by decide)
    (hbase : attributeBase (.Name x pos) name X.env (eval (.Name x pos) X.env) = eval (.Name x pos) X.env := by rfl) (hline : (apos.endLine == cpos.line) = true := by rfl) :
    JE X ct c W false (.Call (.Attribute (.Name x pos) name apos) [] [] cpos) (dMut0 i g) := by
  have hi := of_decide_eq_true hi
  refine ⟨_, pe_bm0 PySem.F.plainAttrs_list slot hty hm (pe_var hN hv hd hcd) hbase hline, fun G H env σ Q r p => ?_⟩
  unfold dMut0 at p
  split at p
  · rename_i xs0 e0
    obtain ⟨q, us, hσ, hq, gq, rv⟩ := own_lst r hi e0
    refine ⟨.ref q, hσ, .inl ⟨rfl, us, .inl (.inl hq)⟩, ?_⟩
    cases z3 : g xs0 [] with
    | none => rw [z3] at p; exact p.elim
    | some y =>
      rw [z3] at p
      exact hs G H q xs0 us [] [] y.1 y.2 Q r.sub hq gq rv .nil z3 fun o v h1 h2 => by
        obtain ⟨t1, t2⟩ := rel_mut r hi hσ gq h1
        exact p G _ v t1 t2 h2 (fun z => nomatch z)
  · exact p.elim
def mAppend : List D → List D → Option (D × D)
  | xs, [y] => if xs.length < 1000000 then some (.non, .lst (xs ++ [y])) else none
  | _, _ => none
theorem ms_append : MutS K ct rAppend mAppend := fun G H p xs us ds vs res new Q s hp gp r r2 e k => by
  unfold mAppend at e
  split at e
  · split at e
    · rename_i hl
      cases e
      cases r2 with
      | cons ry rn =>
        cases rn
        exact ⟨p, us, _, rfl, rfl, hp, by rw [← r.len]; exact Nat.lt_of_lt_of_le hl million, k _ _ ⟨_, upd_same, gp, r.append (.cons ry .nil)⟩ .non⟩
    · cases e
  · cases e
theorem je_append {i : Nat} {x : Str} {e : Expr} {a : DA} {pos apos cpos : Pos} (hi : decide (i ∈ c.own) = true)
    (ha : JA X ct c W [e] a) (hN : X.N[i]? = some x := by rfl) (hv : Vis X.env.scope x := by first | exact Or.inl rfl | exact Or.inr (Or.inl rfl) | exact Or.inr (Or.inr rfl)) (hd : (x == ("__debug__" : Str)) = false := by decide) (hcd : (x == ("__classdict__" : Str)) = false := by decide)
    (hbase : attributeBase (.Name x pos) "append" X.env (eval (.Name x pos) X.env) = eval (.Name x pos) X.env := by rfl)
    (hfew : ((backTo cpos (starEach [e] X.env)).all (fun x => !x.1) && (backToKw cpos (keywordEach [] X.env)).all (fun x => x.1.isSome)
      && decide ([e].length + ([] : List Keyword).length + (if ([] : List Keyword).isEmpty then 0 else 1) < 30)) = true := by rfl)
    (hline : (apos.endLine == cpos.line) = true := by rfl) (hst : starEach [e] X.env = (false, eval e X.env) :: starEach [] X.env := by rfl) (hplain : (backTo cpos (starEach [] X.env)).any (·.1) = false := by rfl) :
    JE X ct c W false (.Call (.Attribute (.Name x pos) "append" apos) [e] [] cpos) (dMut i mAppend a) := je_mut PySem.F.slot_list_append PySem.F.type_list_append mt_append ms_append hi ha hN hv hd hcd hbase hfew hline hst hplain
def mPopAt : List D → List D → Option (D × D)
  | xs, [.int k] => match ixN xs.length k with
    | some j => if xs.length ≤ 1000000 then (match xs[j]? with | some y => some (y, .lst (xs.eraseIdx j)) | none => none) else none
    | none => none
  | _, _ => none
theorem ms_popAt : MutS K ct rPopAt mPopAt := fun G H p xs us ds vs res new Q s hp gp r r2 e k => by
  unfold mPopAt at e
  split at e
  · rename_i i
    split at e
    · rename_i j hj
      split at e
      · rename_i hl
        split at e
        · rename_i y hy
          cases e
          cases r2 with
          | cons ry rn =>
            cases rn
            rw [ry.int_inv]
            obtain ⟨v, hv, rv⟩ := r.get hy
            obtain ⟨h1, h2, h3, h4⟩ := ixN_seq hj
            exact ⟨p, us, i, j, v, rfl, rfl, hp, by omega, by omega, by rw [← r.len]; exact h1, hv, k _ _ ⟨_, upd_same, gp, r.erase j⟩ rv⟩
        · cases e
      · cases e
    · cases e
  · cases e
def mExtend : List D → List D → Option (D × D)
  | xs, [.lst ys] => if xs.length + ys.length ≤ 1000000 then some (.non, .lst (xs ++ ys)) else none
  | _, _ => none
theorem ms_extend : MutS K ct rExtend mExtend := fun G H p xs us ds vs res new Q s hp gp r r2 e k => by
  unfold mExtend at e
  split at e
  · split at e
    · rename_i hl
      cases e
      cases r2 with
      | cons ry rn =>
        cases rn
        cases ry with
        | lst hq rq => exact ⟨p, _, us, _, rfl, rfl, hp, s _ _ hq, by rw [← r.len, ← rq.len]; exact Nat.le_trans hl million, k _ _ ⟨_, upd_same, gp, r.append rq⟩ .non⟩
    · cases e
  · cases e
def mReverse : List D → List D → Option (D × D)
  | xs, [] => some (.non, .lst xs.reverse)
  | _, _ => none
theorem ms_reverse : MutS K ct rReverse mReverse := fun G H p xs us ds vs res new Q s hp gp r r2 e k => by
  unfold mReverse at e
  split at e
  · cases e
    cases r2
    exact ⟨p, us, rfl, rfl, hp, k _ _ ⟨_, upd_same, gp, r.rev⟩ .non⟩
  · cases e
/-! xs[i] = v -/
def sSetIx (i : Nat) (v ix : DE) : DS := fun env => match v env with
  | .ok (.val d) e1 => match look e1 i with
    | some _ => match ix e1 with
      | .ok rk e2 => match rd e2 rk with
        | some (.int k) => match look e2 i with
          | some (.lst xs) => match ixN xs.length k with
            | some j => .nx (e2.set i (some (.lst (xs.set j d))))
            | none => .no
          | _ => .no
        | _ => .no
      | .ex q e2 => .ex q e2
      | .no => .no
    | none => .no
  | .ok _ _ => .no
  | .ex q e1 => .ex q e1
  | .no => .no
theorem js_setIx {i : Nat} {x : Str} {ix e : Expr} {dv di : DE} {pos p1 p2 : Pos} (hi : decide (i ∈ c.own) = true) (he : JE X ct c W false e dv) (hx : JE X ct c W false ix di)
    (hN : X.N[i]? = some x := by rfl) (hv : Vis X.env.scope x := by first | exact Or.inl rfl | exact Or.inr (Or.inl rfl) | exact Or.inr (Or.inr rfl)) (hd : (x == ("__debug__" : Str)) = false := by decide) (hcd : (x == ("__classdict__" : Str)) = false := by decide)
    (ha : ∀ v, assign (.Subscript (.Name x p1) ix p2) X.env v = (do
      let ov ← holding [v] (eval (.Name x p1) X.env)
      let iv ← holding [v, ov] (eval ix X.env)
      standAt p2
      holding [v, ov, iv] (setItem ov iv v)
      release [v, ov, iv] []) := by intro _; rfl)
    (hs : swapsWithSole [.Subscript (.Name x p1) ix p2] e pos.line X.env = pure false := by rfl) (hw : swappedStores [.Subscript (.Name x p1) ix p2] e X.env = pure none := by rfl)
    (h1 : (assignEach [.Subscript (.Name x p1) ix p2] X.env).map (·.2) = [assign (.Subscript (.Name x p1) ix p2) X.env] := by rfl) :
    JS X ct c W (.Assign [.Subscript (.Name x p1) ix p2] e pos) (sSetIx i dv di) := by
  obtain ⟨te, pe, se⟩ := he
  obtain ⟨tx, px, sx⟩ := hx
  have hi := of_decide_eq_true hi
  refine ⟨_, ps_asg pe (pg_sub (pe_var hN hv hd hcd) px set_list ha) hs hw h1, fun G H env σ E r p => ?_⟩
  refine se G H env σ _ r ?_
  unfold sSetIx at p
  cases ea : dv env with
  | no => rw [ea] at p; exact p
  | ex q e1 => rw [ea] at p; exact fun G1 H1 cls dd s R h => p G1 H1 σ cls dd s.g R h
  | ok rv e1 =>
    rw [ea] at p
    cases rv with
    | slot j => exact p.elim
    | val d =>
      intro G1 H1 v s1 R1 X1 _
      dsimp only at p
      cases el : look e1 i with
      | none => rw [el] at p; exact p.elim
      | some d0 =>
        rw [el] at p
        dsimp only at p
        obtain ⟨ov, hσ, _, q0⟩ := R1.slot i d0 (of_look el)
        refine ⟨ov, hσ, sx G1 H1 e1 σ _ R1 ?_⟩
        cases eb : di e1 with
        | no => rw [eb] at p; exact p
        | ex q e2 => rw [eb] at p; exact fun G2 H2 cls dd s R h => p G2 H2 σ cls dd (s1.g.trans s.g) R h
        | ok rk e2 =>
          rw [eb] at p
          intro G2 H2 vk s2 R2 X2 _
          dsimp only at p
          cases z : rd e2 rk with
          | none => rw [z] at p; exact p.elim
          | some dk =>
            rw [z] at p
            cases dk with
            | int k =>
              dsimp only at p
              split at p
              · rename_i xs ex
                obtain ⟨q, us, hσ', hq, gq, rv⟩ := own_lst R2 hi ex
                rw [hσ] at hσ'
                cases hσ'
                split at p
                · rename_i j hj
                  refine ⟨q, us, k, j, rfl, (X2.rd R2 z).int_inv, hq, by rw [← rv.len]; exact hj, ?_⟩
                  obtain ⟨t1, t2⟩ := rel_mut (o := .lst (us.set j v)) (d := .lst (xs.set j d)) R2 hi hσ gq ⟨_, upd_same, gq, rv.set (RV.mono s2.g X1) j⟩
                  exact p G2 _ σ ((s1.g.trans s2.g).trans t1.g) t2
                · exact p.elim
              · exact p.elim
            | _ => exact p.elim
end
end Dn

namespace Dn
open PySem PySem.Spec PyProof.Rows L2
section
variable {X : Cx} {ct : Nat → Addr} {c : Cf} {W : WX} {K : PySem.W.Frag}
/-! isinstance -/
inductive Ty where
  | int | bool | str | tuple | list | dict
def Ty.nm : Ty → String
  | .int => "int" | .bool => "bool" | .str => "str" | .tuple => "tuple" | .list => "list" | .dict => "dict"
def tyN : D → Option String
  | .non => some "NoneType" | .bl _ => some "bool" | .int _ => some "int" | .str _ => some "str" | .tup _ => some "tuple" | .lst _ => some "list" | .dK _ => some "dict" | .dT _ => some "dict"
  | _ => none
def isTy : Ty → D → Option Bool
  | t, .non => some false
  | .int, .bl _ => some true
  | .bool, .bl _ => some true
  | _, .bl _ => some false
  | .int, .int _ => some true
  | _, .int _ => some false
  | .str, .str _ => some true
  | _, .str _ => some false
  | .tuple, .tup _ => some true
  | _, .tup _ => some false
  | .list, .lst _ => some true
  | _, .lst _ => some false
  | .dict, .dK _ => some true
  | _, .dK _ => some false
  | _, _ => none
def gIsi (t : Ty) (d : D) : Option D := (isTy t d).map D.bl
theorem ty_rv {G H : Hp} (s : Same G H) {d : D} {v : V} {n : String} (h : RD K ct G H d v) (e : tyN d = some n) : TyX K H v (.type n) := by
  rcases h with h | h
  · cases h with
    | non => cases e; exact .base .non
    | bl b => cases e; exact .base (.bl b)
    | int b => cases e; exact .base (.int b)
    | str b => cases e; exact .base (.str b)
    | tup h _ => cases e; exact .base (.tup (s _ _ h))
    | lst h _ => cases e; exact .base (.lst (s _ _ h))
    | dK h _ => cases e; exact .base (.dK (s _ _ h))
    | dT h _ => cases e; exact .base (.dT (s _ _ h))
    | _ => cases e
  · obtain ⟨p, o, rfl, _, _⟩ := h.top
    cases d with
    | lst xs => obtain ⟨vs, h1, _, _⟩ := h; cases e; exact .base (.lst h1)
    | dK xs => obtain ⟨vs, h1, _, _⟩ := h; cases e; exact .base (.dK h1)
    | dT xs => obtain ⟨vs, h1, _, _⟩ := h; cases e; exact .base (.dT h1)
    | _ => first | exact h.elim | cases e
theorem isTy_kit : ∀ (t : Ty) (d : D) (b : Bool), isTy t d = some b → ∃ n, tyN d = some n ∧ kitB n t.nm = some b := by
  intro t d b h
  cases d <;> cases t <;> first | (cases h; exact ⟨_, rfl, by decide +kernel⟩) | cases h
theorem je_isi (t : Ty) {e : Expr} {d : DE} {p p2 pos : Pos} (hm : X.mg "isinstance" = none) {T : Str} (hT : X.mg T = none) (he : JE X ct c W false e d) (hg : Gl X "isinstance" := by rfl) (hgT : Gl X T := by rfl) (hv : bootBuiltins T = some (.type t.nm) := by decide +kernel) (hn : T ≠ "__name__" := by decide) (hdb : (T == ("__debug__" : Str)) = false := by decide)
    (hst : starEach [e, .Name T p2] X.env = (false, eval e X.env) :: starEach [.Name T p2] X.env := by rfl) (hst2 : starEach [.Name T p2] X.env = (false, eval (.Name T p2) X.env) :: starEach [] X.env := by rfl) (hpl : (backTo pos (starEach [.Name T p2] X.env)).any (·.1) = false := by rfl) :
    JE X ct c W false (.Call (.Name "isinstance" p) [e, .Name T p2] [] pos) (dUn (gIsi t) d) := by
  obtain ⟨te, pe, se⟩ := he
  have pT : PE X (.Name T p2) (tC (.ty t.nm)) := pe_bltn (v := .ty t.nm) hgT hT hv rfl hn hdb
  refine ⟨_, pe_callB call_isi hg hm (by decide +kernel) (pa_cons pe (pa_cons pT pa_nil hst2) hst) (by decide) (by decide) hst hpl, ?_⟩
  refine sim_un (r := fun x H Q => rIsi X.K [x, .ty t.nm] H Q) (fun G H dx x d Q s r e o => ?_) se
  unfold gIsi at e
  cases z : isTy t dx with
  | none => rw [z] at e; cases e
  | some b =>
    rw [z] at e
    cases e
    obtain ⟨n, h1, h2⟩ := isTy_kit t dx b z
    exact ⟨x, .ty t.nm, .type n, .type t.nm, b, rfl, .ty _, ty_rv s r h1, kit_ty h2, o.val s (.bl _)⟩
/-! chains -/
theorem sim_chain {r r' : R2} {g g' : D → D → Option D} {ta tb tc : TE} {a b e : DE} (hs : OpS K ct false r g) (hs' : OpS K ct false r' g') (ha : SimE K ct c W false ta a) (hb : SimE K ct c W false tb b) (he : SimE K ct c W false tc e) : SimE K ct c W false (tChain r r' ta tb tc) (dChain g g' a b e) := fun G H env σ Q rel p => by
  refine ha G H env σ _ rel ?_
  unfold dChain at p
  cases ea : a env with
  | no => rw [ea] at p; exact p
  | ex q e1 => rw [ea] at p; exact p
  | ok x e1 =>
    rw [ea] at p
    intro G1 H1 v1 s1 R1 X1 _
    refine hb G1 H1 e1 σ _ R1 ?_
    dsimp only at p
    cases eb : b e1 with
    | no => rw [eb] at p; exact p
    | ex q e2 => rw [eb] at p; exact fun G' H' cls dd s R e => p G' H' cls dd (s1.trans s) R e
    | ok y e2 =>
      rw [eb] at p
      intro G2 H2 v2 s2 R2 X2 _
      dsimp only at p
      cases z1 : rd e2 x with
      | none => rw [z1] at p; exact p.elim
      | some dx =>
        cases z2 : rd e2 y with
        | none => rw [z1, z2] at p; exact p.elim
        | some dy =>
          rw [z1, z2] at p
          dsimp only at p
          cases z3 : g dx dy with
          | none => rw [z3] at p; exact p.elim
          | some d =>
            rw [z3] at p
            cases d with
            | bl k =>
              refine hs G2 H2 dx dy v1 v2 (.bl k) _ R2.sub ((X1.mono (H' := H2) s2.g).rd R2 z1) (X2.rd R2 z2) z3 fun G3 H3 v gr rv => ⟨k, rv.bl_inv, ?_⟩
              have s3 := (s1.trans s2).trans (gr.stp (c := c) (σ := σ))
              cases k with
              | false => exact iteF (p G3 H3 _ s3 (R2.grow gr) (.bl false) (fun z => nomatch z))
              | true =>
                refine iteT (he G3 H3 e2 σ _ (R2.grow gr) ?_)
                dsimp only at p
                cases ee : e e2 with
                | no => rw [ee] at p; exact p
                | ex q e3 => rw [ee] at p; exact fun G' H' cls dd s R e => p G' H' cls dd (s3.trans s) R e
                | ok z e3 =>
                  rw [ee] at p
                  intro G4 H4 v4 s4 R4 X4 _
                  dsimp only at p
                  cases y1 : rd e3 y with
                  | none => rw [y1] at p; exact p.elim
                  | some dy' =>
                    cases y2 : rd e3 z with
                    | none => rw [y1, y2] at p; exact p.elim
                    | some dz =>
                      rw [y1, y2] at p
                      dsimp only at p
                      cases y3 : g' dy' dz with
                      | none => rw [y3] at p; exact p.elim
                      | some dd =>
                        rw [y3] at p
                        cases dd with
                        | bl k => exact hs' G4 H4 dy' dz v2 v4 (.bl k) Q R4.sub ((X2.mono (H' := H4) (gr.g.trans s4.g)).rd R4 y1) (X4.rd R4 y2) y3 (Out.post R4 (s3.trans s4) p)
                        | _ => exact p.elim
            | _ => exact p.elim
theorem je_chain {op op' : CmpOp} {r r' : R2} {g g' : D → D → Option D} {a b e : Expr} {da db de : DE} {pos : Pos} (ho : OpR X (compareOp op) r) (hs : OpS X.K ct false r g) (ho' : OpR X (compareOp op') r') (hs' : OpS X.K ct false r' g') (ha : JE X ct c W false a da) (hb : JE X ct c W false b db) (he : JE X ct c W false e de) (hm : lastMarks [op, op'] [b, e] = false := by with_unfolding_all rfl) :
    JE X ct c W false (.Compare a [op, op'] [b, e] pos) (dChain g g' da db de) := let ⟨_, p1, s1⟩ := ha; let ⟨_, p2, s2⟩ := hb; let ⟨_, p3, s3⟩ := he; ⟨_, pe_chain ho ho' p1 p2 p3 hm, sim_chain hs hs' s1 s2 s3⟩
theorem jt_chain {op op' : CmpOp} {r r' : R2} {g g' : D → D → Option D} {a b e : Expr} {da db de : DE} {pos : Pos} (ho : OpR X (compareOp op) r) (hs : OpS X.K ct false r g) (ho' : OpR X (compareOp op') r') (hs' : OpS X.K ct false r' g') (ha : JE X ct c W false a da) (hb : JE X ct c W false b db) (he : JE X ct c W false e de) (hm : lastMarks [op, op'] [b, e] = false := by with_unfolding_all rfl) :
    JT X ct c W (.Compare a [op, op'] [b, e] pos) (dTest (dChain g g' da db de)) := let ⟨_, p1, s1⟩ := ha; let ⟨_, p2, s2⟩ := hb; let ⟨_, p3, s3⟩ := he; ⟨_, pt_chain ho ho' p1 p2 p3 hm, sim_test (sim_chain hs hs' s1 s2 s3)⟩
/-! raise, try -/
theorem pmk_own0 {C : Addr} {bmB : List Value} {B newId initId : String} {x : Str} {p pos : Pos} (F : ExcBaseFacts B newId initId bmB) (q : PySem.W.excIn X.K C bmB newId = true) (gC : X.mg x = some (.ref C))
    (kC : PySem.W.keepIn X.K (.ref C) = true) (r : Raises X (.ref C)) (hg : Gl X x) (hdb : (x == ("__debug__" : Str)) = false := by decide) :
    PMk X (.Call (.Name x p) [] [] pos) (fun σ H Q => Q (.ref C) none H) := by
  intro pins s σ H Q I h
  refine wpAny_Call_Name_kw (ld_glob I hg gC ?_ hdb)
  refine PySem.W.callWith_K0 I.kIn kC ?_
  show wpAny _ _ (call (.ref C) []) _ _ _
  obtain ⟨bm, N, nm, qn, bs, hdct, sn, sub, ab, col, dd, k0, k1, k2, k3, k5, mN, hC, hN, hni, T⟩ := exc_obj I.kIn q
  refine wpAny_call_exc_subT F T hC hN hni (fun h' e hm => ?_) (Nat.zero_le _)
  exact mk_of I hm r h (I.hok.gone hm.new)
/-- what the top tells of an error class without fields: its number n -/
structure XTxt (K : PySem.W.Frag) (mg : Str → Option Value) (ct : Nat → Addr) (x : Str) (n : Nat) : Prop where
  gC : mg x = some (.ref (ct n))
  xC : PySem.W.excIn K (ct n) [.type "ValueError", .type "Exception", .type "BaseException", .type "object"] "ValueError.__new__" = true
  kC : PySem.W.keepIn K (.ref (ct n)) = true
  bC : PySem.W.subIn K (.ref (ct n)) (.type "BaseException") = some true
  tC : PySem.W.typeIn K (.ref (ct n)) = some (.type "type")
theorem js_raise {n : Nat} {x : Str} {p pos pos' : Pos} (T : XTxt X.K X.mg ct x n) (hc : X.calm = true) (tk : Takes X W) (hg : Gl X x := by rfl) (hdb : (x == ("__debug__" : Str)) = false := by decide) :
    JS X ct c W (.Raise (some (.Call (.Name x p) [] [] pos)) none pos') (fun env => .ex ⟨n, none⟩ env) :=
  ⟨_, ps_raise hc tk (pmk_own0 PySem.F.excBase_ValueError T.xC T.gC T.kC (raises_own T.bC T.tC) hg hdb), fun G H env σ E r p => p G H σ _ none (.refl _) r ⟨rfl, rfl⟩⟩
def hand (x : Ex) (e : Env) : List (Nat × DS) → RS
  | [] => .ex x e
  | (k, s) :: r => match x.c == k with
    | true => match s e with
      | .ex _ _ => .no
      | q => q
    | false => hand x e r
def sTry (L : List Nat) (b : DS) (hs : List (Nat × DS)) : DS := fun env => match b env with
  | .ex x e => match L.contains x.c with
    | true => hand x e hs
    | false => .no
  | r => r
def ExT (K : PySem.W.Frag) (ct : Nat → Addr) (L : List Nat) : Prop := ∀ i j, L.contains i = true → L.contains j = true → PySem.W.exmOne K (.ref (ct i)) (.ref (ct j)) = some (i == j)
inductive JHs (X : Cx) (ct : Nat → Addr) (c : Cf) (n : List Nat) : List ExceptHandler → List (Nat × DS) → Prop where
  | nil : JHs X ct c n [] []
  | cons {x : Str} {k : Nat} {b₀ : Stmt} {suite : List Stmt} {np pos' : Pos} {hds : List ExceptHandler} {l : List (Nat × DS)} {d : DS} (hk : n.contains k = true) (hm : X.mg x = some (.ref (ct k))) (hg : Gl X x) (hdb : (x == ("__debug__" : Str)) = false)
      (hsu : ∀ (a : Addr) (oe : Obj) (pn : List (Addr × Obj)), JSs (X.suite a ((a, oe) :: pn)) ct c W0 (b₀ :: suite) d) (r : JHs X ct c n hds l) :
      JHs X ct c n (.ExceptHandler (some (.Name x np)) none (b₀ :: suite) pos' :: hds) ((k, d) :: l)
def hdl (K : PySem.W.Frag) (ct : Nat → Addr) (c : Cf) (l : List (Nat × DS)) : List (Value × (Addr → Value → Option Addr → TS)) := l.map fun q => (.ref (ct q.1), fun _ _ _ => tCanS K ct c W0 q.2)
theorem JHs.ok {n : List Nat} {hds : List ExceptHandler} {l : List (Nat × DS)} (h : JHs X ct c n hds l) : HdsOk X hds (hdl X.K ct c l) := by
  induction h with
  | nil => exact .nil
  | cons hk hm hg hdb hsu r ih => exact .cons ⟨hg, hdb, .inl hm⟩ (fun a oe cls d pn _ _ => (hsu a oe pn).can) ih
theorem hand_ok {n : List Nat} (ht : ExT K ct n) {G : Hp} {E : Ends} {x : Ex} {e : Env} (hx : n.contains x.c = true) : ∀ {l : List (Nat × DS)}, (∀ q ∈ l, n.contains q.1 = true) → PostS K ct c W G E (hand x e l) → ∀ G' H' σ' cls dd, Same G G' → Rel K ct c G' H' e σ' → RE K ct G' x cls dd → wMany K W E (hdl K ct c l) cls dd σ' H'
  | [], _, p, G', H', σ', cls, dd, s, R, h => p G' H' σ' cls dd s R h
  | (k, d) :: l, hl, p, G', H', σ', cls, dd, s, R, h => by
    have hk := hl (k, d) List.mem_cons_self
    obtain ⟨e1, _⟩ := id h
    refine ⟨x.c == k, by rw [e1]; exact ht _ _ hx hk, fun z a _ => ?_, fun z => ?_⟩
    · unfold hand at p
      rw [z] at p
      dsimp only at p
      refine ⟨G', e, R, ?_⟩
      show PostS K ct c W0 G' E (d e)
      cases q : d e with
      | ex y e2 => rw [q] at p; exact p.elim
      | nx e2 => rw [q] at p; exact PostS.mono (W := W0) (fun G1 H1 σ1 s1 R1 => p G1 H1 σ1 s1 R1) s
      | bk e2 => rw [q] at p; exact PostS.mono (W := W0) (fun G1 H1 σ1 s1 R1 => p G1 H1 σ1 s1 R1) s
      | ct e2 => rw [q] at p; exact PostS.mono (W := W0) (fun G1 H1 σ1 s1 R1 => p G1 H1 σ1 s1 R1) s
      | rt rv e2 => rw [q] at p; exact PostS.mono (W := W0) (fun G1 H1 σ1 v s1 R1 h => p G1 H1 σ1 v s1 R1 h) s
      | rn rv e2 => rw [q] at p; exact PostS.mono (W := W0) (fun G1 H1 σ1 v s1 R1 h k => p G1 H1 σ1 v s1 R1 h k) s
      | no => rw [q] at p; exact p.elim
    · unfold hand at p
      rw [z] at p
      exact hand_ok ht hx (fun q hq => hl q (List.mem_cons_of_mem _ hq)) p G' H' σ' cls dd s R h
theorem js_try {n : List Nat} {body : List Stmt} {h₀ : ExceptHandler} {hds : List ExceptHandler} {l : List (Nat × DS)} {b : DS} {pos : Pos} (ht : ExT X.K ct n) (hl : l.all (fun q => n.contains q.1) = true) (tk : Takes X W)
    (hb : ∀ (W : WX) (pn : List (Addr × Obj)) (xe : Value → Shared → Prop), Takes (X.tr pn xe) W → PassesOwn (model X.prog X.w) X.A X.env xe → JSs (X.tr pn xe) ct c W body b) (hh : JHs X ct c n (h₀ :: hds) l)
    (hs : X.stack = X.env :: X.outer := by rfl) (hf : X.env.frame = some X.env.locals := by rfl) : JS X ct c W (.Try body (h₀ :: hds) [] [] pos) (sTry n b l) := by
  refine ⟨_, ps_try_many (tb := fun W => tCanS X.K ct c W b) hs hf tk (fun W pn xe t p => (hb W pn xe t p).can) hh.ok, fun G H env σ E r p => ?_⟩
  refine ⟨G, env, r, ?_⟩
  unfold sTry at p
  cases q : b env with
  | ex x e2 =>
    rw [q] at p
    dsimp only at p
    cases z : n.contains x.c with
    | false => rw [z] at p; exact p.elim
    | true =>
      rw [z] at p
      exact hand_ok ht z (fun q hq => List.all_eq_true.mp hl q hq) p
  | nx e2 => rw [q] at p; exact p
  | bk e2 => rw [q] at p; exact p
  | ct e2 => rw [q] at p; exact p
  | rt rv e2 => rw [q] at p; exact p
  | rn rv e2 => rw [q] at p; exact p
  | no => rw [q] at p; exact p
/-! slices -/
abbrev DO := Option DE
def cutD (xs : List D) (lo hi : Option Int) : List D := (xs.drop (HT.sIx xs.length 0 lo)).take (HT.sIx xs.length xs.length hi - HT.sIx xs.length 0 lo)
end
end Dn

namespace Dn
open PySem PySem.Spec PyProof.Rows L2
section
variable {X : Cx} {ct : Nat → Addr} {c : Cf} {W : WX} {K : PySem.W.Frag}
theorem parU2 {is : List Nat} {i j : Nat} {vs : List V} {σ : L2.St} {H : Hp} {Q : L2.St → Hp → Prop} (hl : vs.length = 2) (h : Q (setsS σ [i, j] vs) H) : gCons (gName i) (gCons (gName j) gNil) vs σ H Q := by
  obtain ⟨v, w, rfl⟩ := len2 hl
  exact ⟨v, _, rfl, w, _, rfl, rfl, h⟩
theorem parU3 {i j l : Nat} {vs : List V} {σ : L2.St} {H : Hp} {Q : L2.St → Hp → Prop} (hl : vs.length = 3) (h : Q (setsS σ [i, j, l] vs) H) : gCons (gName i) (gCons (gName j) (gCons (gName l) gNil)) vs σ H Q := by
  obtain ⟨v, w, u, rfl⟩ := len3 hl
  exact ⟨v, _, rfl, w, _, rfl, u, _, rfl, rfl, h⟩
/-! a def as its callers see it -/
def FnT (P : Program) (w : World) (K : PySem.W.Frag) (mg : Str → Option Value) (base : Heap) (ct : Nat → Addr) (x : Str) (k n : Nat) (io : Bool) (df : DF) : Prop :=
  ∃ (f : Addr) (fd : FuncData) (ps : List Str), FnOk P w K mg base (L2.CX P w) k f fd ps (spF K ct n io df) ∧ mg x = some (.ref f) ∧ PySem.W.keepIn K (.ref f) = true ∧ Binds K fd ps []
theorem je_callF {k n : Nat} {df : DF} {x : Str} {e : Expr} {es : List Expr} {a : DA} {p pos : Pos} (F : FnT X.prog X.w X.K X.mg X.base ct x k n false df) (hr : Room k X.A) (tk : Takes X W)
    (ha : JA X ct c W (e :: es) a) (hn : ALen a n) (hg : Gl X x := by rfl) (hdb : (x == ("__debug__" : Str)) = false := by decide) (he : starEach (e :: es) X.env = (false, eval e X.env) :: starEach es X.env := by rfl) (hpl : (backTo pos (starEach es X.env)).any (·.1) = false := by rfl) :
    JE X ct c W false (.Call (.Name x p) (e :: es) [] pos) (dCall df a) := let ⟨_, _, _, h1, h2, h3, h4⟩ := F; je_call h1 hr h2 h3 h4 tk ha hn hg hdb he hpl
theorem je_callNF {k n : Nat} {df : DF} {x : Str} {e : Expr} {es : List Expr} {a : DA} {p pos : Pos} (F : FnT X.prog X.w X.K X.mg X.base ct x k n false df) (hr : Room k X.A) (tk : Takes X W)
    (ha : JA X ct c W (e :: es) a) (hn : ALen a n) (hg : Gl X x := by rfl) (hdb : (x == ("__debug__" : Str)) = false := by decide) (he : starEach (e :: es) X.env = (false, eval e X.env) :: starEach es X.env := by rfl) (hpl : (backTo pos (starEach es X.env)).any (·.1) = false := by rfl) :
    JE X ct c W true (.Call (.Name x p) (e :: es) [] pos) (dCallN df a) := let ⟨_, _, _, h1, h2, h3, h4⟩ := F; je_callN h1 hr h2 h3 h4 tk ha hn hg hdb he hpl
theorem je_callIOF {k n : Nat} {df : DF} {x : Str} {e : Expr} {es : List Expr} {a : DA} {p pos : Pos} (F : FnT X.prog X.w X.K X.mg X.base ct x k n true df) (hr : Room k X.A) (tk : Takes X W)
    (ha : JA X ct c W (e :: es) a) (hn : ALen a n) (hg : Gl X x := by rfl) (hdb : (x == ("__debug__" : Str)) = false := by decide) (he : starEach (e :: es) X.env = (false, eval e X.env) :: starEach es X.env := by rfl) (hpl : (backTo pos (starEach es X.env)).any (·.1) = false := by rfl) :
    JE X ct c W false (.Call (.Name x p) (e :: es) [] pos) (dCallIO df a) := let ⟨_, _, _, h1, h2, h3, h4⟩ := F; je_callIO h1 hr h2 h3 h4 tk ha hn hg hdb he hpl
/-- a def of the text: where it stands, how its arguments bind -/
structure DefT (K : PySem.W.Frag) (mg : Str → Option Value) (x : Str) (st : Stmt) (ps : List Str) : Prop where
  ex : ∃ (f : Addr) (fd : FuncData), Fun K x x st f fd ∧ mg x = some (.ref f) ∧ Binds K fd ps []
theorem fnT_mk {P : Program} {w : World} {mg : Str → Option Value} {base : Heap} {x : Str} {st : Stmt} {N ps : List Str} {k n : Nat} {io : Bool} {own : List Nat} {b : DS} (F : DefT K mg x st ps) (S : FnScope N ps (defScope st)) (hps : ps.length = n) (ho : ownOk n io own = true)
    (hb : ∀ (f : Addr) (cdv : Value) (A : Around) (outer : List PySem.Env) (s : Shared) (H : Hp) (E : XK) (H0 G0 : Hp) (iop : Option Addr), Room k (A.deeper (envOfC x (defScope st) s.heap.objs.size f cdv)) →
      PassesOwn (model P w) (cxOf (L2.CX P w) P w K mg base N x (defScope st) f cdv A outer s H E).A (cxOf (L2.CX P w) P w K mg base N x (defScope st) f cdv A outer s H E).env (cxOf (L2.CX P w) P w K mg base N x (defScope st) f cdv A outer s H E).xe →
      Takes (cxOf (L2.CX P w) P w K mg base N x (defScope st) f cdv A outer s H E) (fun cls d _ H => E cls d H) →
      JSs (cxOf (L2.CX P w) P w K mg base N x (defScope st) f cdv A outer s H E) ct ⟨own, H0, G0, iop, []⟩ (fun cls d _ H => E cls d H) (defBody st) b) :
    FnT P w K mg base ct x (k + 1) n io (runF N.length io b) := by
  obtain ⟨f, fd, F1, g, bn⟩ := F.ex
  exact ⟨f, fd, ps, fn_ok F1 S hps ho (fun cdv A outer s H E H0 G0 iop hr => hb f cdv A outer s H E H0 G0 iop hr (passes_of rfl) (takes_of rfl rfl rfl rfl)), g, F1.kp, bn⟩
/-- without fuel nothing is promised -/
theorem fnT_no {P : Program} {w : World} {mg : Str → Option Value} {base : Heap} {x : Str} {st : Stmt} {ps : List Str} {k n : Nat} {io : Bool} (F : DefT K mg x st ps) : FnT P w K mg base ct x k n io (fun _ => .no) := by
  obtain ⟨f, fd, F1, g, bn⟩ := F.ex
  refine ⟨f, fd, ps, ⟨fun vs H Q E h => ?_, fun A outer s H args us vs Q E hr e b r h => ?_⟩, g, F1.kp, bn⟩
  · obtain ⟨_, _, _, _, _, _, z⟩ := h; exact z.elim
  · obtain ⟨_, _, _, _, _, _, z⟩ := h; exact z.elim
/-! two expressions -/
theorem two {G H : Hp} {env : Env} {σ : L2.St} {ta tb : TE} {a b : DE} (ha : SimE K ct c W false ta a) (hb : SimE K ct c W false tb b) (rel : Rel K ct c G H env σ) {Qk : V → V → Hp → Prop}
    (p : match a env with
      | .ok x e1 => (match b e1 with
        | .ok y e2 => ∀ G2 H2 v1 v2, Stp c σ G H G2 H2 → Rel K ct c G2 H2 e2 σ → RX K ct c G2 H2 σ false x v1 → RX K ct c G2 H2 σ false y v2 → Qk v1 v2 H2
        | .ex q e2 => ∀ G' H' cls dd, Stp c σ G H G' H' → Rel K ct c G' H' e2 σ → RE K ct G' q cls dd → W cls dd σ H'
        | .no => False)
      | .ex q e1 => ∀ G' H' cls dd, Stp c σ G H G' H' → Rel K ct c G' H' e1 σ → RE K ct G' q cls dd → W cls dd σ H'
      | .no => False) : ta σ H fun x H1 => tb σ H1 fun y H2 => Qk x y H2 := by
  refine ha G H env σ _ rel ?_
  cases ea : a env with
  | no => rw [ea] at p; exact p
  | ex q e1 => rw [ea] at p; exact p
  | ok x e1 =>
    rw [ea] at p
    intro G1 H1 v1 s1 R1 X1 _
    refine hb G1 H1 e1 σ _ R1 ?_
    dsimp only at p
    cases eb : b e1 with
    | no => rw [eb] at p; exact p
    | ex q e2 => rw [eb] at p; exact fun G' H' cls dd s R e => p G' H' cls dd (s1.trans s) R e
    | ok y e2 => rw [eb] at p; exact fun G2 H2 v2 s2 R2 X2 _ => p G2 H2 v1 v2 (s1.trans s2) R2 (X1.mono s2.g) X2
def iTwo (g : D → D → Option (List D)) (a b : DE) : DI := fun env => match a env with
  | .ok x e1 => match b e1 with
    | .ok y e2 => match rd e2 x, rd e2 y with
      | some dx, some dy => match g dx dy with | some d => .ok d e2 | none => .no
      | _, _ => .no
    | .ex q e2 => .ex q e2
    | .no => .no
  | .ex q e1 => .ex q e1
  | .no => .no
def gRev : D → D → Option (List D)
  | .int i, .int j => if big i && big j then some (prog (i + (((j - i).toNat : Nat) : Int) - 1) (-1) (j - i).toNat) else none
  | _, _ => none
theorem ji_rev2 {tg a b : Expr} {da db : DE} {p p2 pos pos2 : Pos} (hm : X.mg "reversed" = none) (hm2 : X.mg "range" = none) (ha : JE X ct c W false a da) (hb : JE X ct c W false b db) (hg : Gl X "reversed" := by rfl) (hg2 : Gl X "range" := by rfl)
    (na : starEach [a, b] X.env = (false, eval a X.env) :: starEach [b] X.env := by rfl) (nb : starEach [b] X.env = (false, eval b X.env) :: starEach [] X.env := by rfl) (hp : (backTo pos2 (starEach [b] X.env)).any (·.1) = false := by rfl) (hs : starEach [.Call (.Name "range" p2) [a, b] [] pos2] X.env = (false, eval (.Call (.Name "range" p2) [a, b] [] pos2) X.env) :: starEach [] X.env := by rfl) :
    JI X ct c W tg (.Call (.Name "reversed" p) [.Call (.Name "range" p2) [a, b] [] pos2] [] pos) (iTwo gRev da db) := by
  obtain ⟨ta, pa, sa⟩ := ha
  obtain ⟨tb, pb, sb⟩ := hb
  refine ⟨_, pi_revR hg hm (prg_2 hg2 hm2 pa pb na nb hp) hs, fun G H env σ Rk r p => ?_⟩
  refine two sa sb r ?_
  unfold iTwo at p
  cases ea : da env with
  | no => rw [ea] at p; exact p
  | ex q e1 => rw [ea] at p; exact p
  | ok x e1 =>
    rw [ea] at p
    dsimp only at p ⊢
    cases eb : db e1 with
    | no => rw [eb] at p; exact p
    | ex q e1 => rw [eb] at p; exact p
    | ok y e2 =>
      rw [eb] at p
      dsimp only at p ⊢
      intro G2 H2 v1 v2 s R X1 X2
      cases z1 : rd e2 x with
      | none => rw [z1] at p; exact p.elim
      | some dx =>
        cases z2 : rd e2 y with
        | none => rw [z1, z2] at p; exact p.elim
        | some dy =>
          rw [z1, z2] at p
          dsimp only at p
          cases z3 : gRev dx dy with
          | none => rw [z3] at p; exact p.elim
          | some xs =>
            rw [z3] at p
            unfold gRev at z3
            split at z3
            · rename_i i j
              split at z3
              · rename_i hbg
                cases z3
                rw [Bool.and_eq_true] at hbg
                exact ⟨i, j, (X1.rd R z1).int_inv, (X2.rd R z2).int_inv, (big_ok hbg.1).1, (big_ok hbg.1).2, (big_ok hbg.2).1, (big_ok hbg.2).2, p G2 H2 _ s R itc_ok⟩
              · cases z3
            · cases z3
def rs3 (i j st : Int) : Nat := ((j - i + st - 1) / st).toNat
def range3 : List D → Option (List D)
  | [.int i, .int j, .int st] => if decide (st ≠ 0) && decide (st.natAbs < 1073741824) && Builtin.Range.small i j st && decide (Builtin.Range.rangeSize i j st = rs3 i j st) then some (prog i st (rs3 i j st)) else none
  | _ => none
theorem ji_range3 {tg a b e : Expr} {p pos : Pos} {d : DA} (hm : X.mg "range" = none) (ha : JA X ct c W [a, b, e] d) (hg : Gl X "range" := by rfl) (hs : starEach [a, b, e] X.env = (false, eval a X.env) :: starEach [b, e] X.env := by rfl) (hpl : (backTo pos (starEach [b, e] X.env)).any (·.1) = false := by rfl) : JI X ct c W tg (.Call (.Name "range" p) [a, b, e] [] pos) (iFn range3 d) := by
  obtain ⟨t, p1, s1⟩ := ha
  refine ⟨_, pi_range3 hg hm p1 hs hpl, sim_iFn (r := fun vs H1 R => ∃ (i j c : Int) (n : Nat), vs = [.int i, .int j, .int c] ∧ RgC i j c n ∧ R (Itc i c n) H1) (fun G H ds vs xs Rk s h e k => ?_) s1⟩
  unfold range3 at e
  split at e
  · rename_i i j st
    split at e
    · rename_i hb
      cases e
      obtain ⟨v, w, u, rfl, q1, q2, q3⟩ := rds3 h
      rw [q1.int_inv, q2.int_inv, q3.int_inv]
      rw [Bool.and_eq_true, Bool.and_eq_true, Bool.and_eq_true] at hb
      exact ⟨i, j, st, rs3 i j st, rfl, ⟨of_decide_eq_true hb.1.1.1, of_decide_eq_true hb.1.1.2, hb.1.2, of_decide_eq_true hb.2⟩, k G H _ (.refl s) itc_ok⟩
    · cases e
  · cases e
/-! list(range(..)), tuple(range(..)) -/
theorem prog_rg {G : Hp} (a b : Int) : RVs K ct G (prog a 1 (b - a).toNat) (rgV a b) := by
  have go : ∀ (n : Nat) (a : Int) (l : List V), l.length = n → (∀ i, i < n → l[i]? = some (.int (a + (i : Nat)))) → RVs K ct G (prog a 1 n) l := by
    intro n
    induction n with
    | zero => intro a l hl _; cases l with | nil => exact .nil | cons _ _ => cases hl
    | succ n ih =>
      intro a l hl h
      cases l with
      | nil => cases hl
      | cons v l =>
        have h0 := h 0 (by omega)
        simp at h0
        subst h0
        unfold prog
        refine .cons (.int a) (ih (a + 1) l (by simpa using hl) fun i hi => ?_)
        have := h (i + 1) (by omega)
        rw [List.getElem?_cons_succ] at this
        rw [this]
        congr 2
        omega
  refine go _ a _ (rgV_length a b) fun i hi => ?_
  unfold rgV
  rw [List.getElem?_map, List.getElem?_range hi]
  rfl
def okRg (a b : Int) : Bool := big a && big b && decide ((b - a).toNat ≤ 1000000)
theorem okRg_ok {a b : Int} (h : okRg a b = true) : RgOk a b := by
  unfold okRg at h
  rw [Bool.and_eq_true, Bool.and_eq_true] at h
  exact ⟨(big_ok h.1.1).1, (big_ok h.1.1).2, (big_ok h.1.2).1, (big_ok h.1.2).2, Nat.le_trans (of_decide_eq_true h.2) (by decide)⟩
def bListR : D → Option D
  | .int n => if okRg 0 n then some (.lst (prog 0 1 (n - 0).toNat)) else none
  | _ => none
def bTupR : D → Option D
  | .int n => if okRg 0 n then some (.tup (prog 0 1 (n - 0).toNat)) else none
  | _ => none
theorem je_listR {a : Expr} {d : DE} {p p2 pos pos2 : Pos} (hc : X.calm = true) (hm : X.mg "list" = none) (hm2 : X.mg "range" = none) (ha : JE X ct c W false a d) (hg : Gl X "list" := by rfl) (hg2 : Gl X "range" := by rfl) (na : starEach [a] X.env = (false, eval a X.env) :: starEach [] X.env := by rfl) (nb : starEach [.Call (.Name "range" p2) [a] [] pos2] X.env = (false, eval (.Call (.Name "range" p2) [a] [] pos2) X.env) :: starEach [] X.env := by rfl) :
    JE X ct c W true (.Call (.Name "list" p) [.Call (.Name "range" p2) [a] [] pos2] [] pos) (dUn bListR d) := by
  obtain ⟨t, p1, s1⟩ := ha
  refine ⟨_, pe_listRg hc hg hm (prg_1 hg2 hm2 p1 na) nb, ?_⟩
  refine sim_un (r := fun x H Q => ∃ n, x = .int n ∧ RgOk 0 n ∧ ∀ q, H q = none → Q (.ref q) (upd H q (.lst (rgV 0 n)))) (fun G H dx x d Q s r e o => ?_) s1
  unfold bListR at e
  split at e
  · split at e
    · rename_i n hn
      cases e
      exact ⟨n, r.int_inv, okRg_ok hn, fun q hq => o.newL s hq (prog_rg 0 n)⟩
    · cases e
  · cases e
theorem je_tupR {a : Expr} {d : DE} {p p2 pos pos2 : Pos} (hc : X.calm = true) (hm : X.mg "tuple" = none) (hm2 : X.mg "range" = none) (ha : JE X ct c W false a d) (hg : Gl X "tuple" := by rfl) (hg2 : Gl X "range" := by rfl) (na : starEach [a] X.env = (false, eval a X.env) :: starEach [] X.env := by rfl) (nb : starEach [.Call (.Name "range" p2) [a] [] pos2] X.env = (false, eval (.Call (.Name "range" p2) [a] [] pos2) X.env) :: starEach [] X.env := by rfl) :
    JE X ct c W false (.Call (.Name "tuple" p) [.Call (.Name "range" p2) [a] [] pos2] [] pos) (dUn bTupR d) := by
  obtain ⟨t, p1, s1⟩ := ha
  refine ⟨_, pe_tupRg hc hg hm (prg_1 hg2 hm2 p1 na) nb, ?_⟩
  refine sim_un (r := fun x H Q => ∃ n, x = .int n ∧ RgOk 0 n ∧ ∀ q, H q = none → Q (.ref q) (upd H q (.tup (rgV 0 n)))) (fun G H dx x d Q s r e o => ?_) s1
  unfold bTupR at e
  split at e
  · split at e
    · rename_i n hn
      cases e
      exact ⟨n, r.int_inv, okRg_ok hn, fun q hq => o.newT s hq (prog_rg 0 n)⟩
    · cases e
  · cases e
end
end Dn

/-! enumerate(tuple): the machine's side -/
namespace PySem
open Sem (wp)
theorem dn_meets_enum {v : Value} {o : Obj} {H : Heap → Prop} (B : Begins v o H) :
    Meets (Builtin.«enumerate.__new__» ⟨[.type "enumerate", v], []⟩) (fun _ R s => H s.heap ∧
      R (.ok (.ret (.ref (s.heap.push o).objs.size))) { s with heap := (s.heap.push o).push { cls := .type "enumerate", data := .fields #[.none, .bool false, .ref s.heap.objs.size, rawInt 0, .none, .none] } }) :=
  .of_wp fun prog w A R s h => by
    obtain ⟨hp, g, d, tk, os⟩ := s; obtain ⟨h1, h⟩ := h
    have hsub := sub_enumerate
    have q1 : ∀ {A' : Around} {E : Value → Shared → Prop} {Q : Value → Shared → Prop}, Q (.ref hp.objs.size) ⟨hp.push o, g, d, tk, os⟩ → wpAny (model prog w) A' (pyIter v) Q E ⟨hp, g, d, tk, os⟩ :=
      fun q => B.iter prog w _ _ ⟨hp, g, d, tk, os⟩ _ h1 q
    wp_walk using q1
    refine wpAny_stack_any fun st => wpAny_pure ?_
    split
    · rename_i c _ _ _ _ _
      cases (c == Value.type "enumerate")
      · wp_walk using q1
        exact ⟨_, rfl, h⟩
      · wp_walk using q1
        exact ⟨_, rfl, h⟩
    · wp_walk using q1
      exact ⟨_, rfl, h⟩
theorem dn_call_enum {prog : Program} {w : World} {A : Around} {E : Value → Shared → Prop} {s : Shared} {v : Value} {o : Obj} {H : Heap → Prop} {Q : Value → Shared → Prop} (B : Begins v o H) (h1 : H s.heap)
    (h : ∀ h', IsEnum h' (s.heap.objs.size + 1) s.heap.objs.size 0 .none → h'.get? s.heap.objs.size = some o → h'.objs.size = s.heap.objs.size + 2 →
      (∀ b o, s.heap.get? b = some o → h'.get? b = some o) → Q (.ref (s.heap.objs.size + 1)) { s with heap := h' }) :
    wpAny (model prog w) A (call (.type "enumerate") [v]) Q E s := by
  refine callType_new F.called_enumerate (by decide) (F.typeCall_enumerate_1 _) (F.newCall_enumerate_1 _) (fun obj => F.args_object_init_2 obj _) F.entry_enumerate_new
    (dn_meets_enum B) ⟨h1, ?_⟩
  have hz : (s.heap.push o).objs.size = s.heap.objs.size + 1 := Heap.size_push ..
  show _ ∧ _
  rw [hz]
  have he : IsEnum ((s.heap.push o).push { cls := .type "enumerate", data := .fields #[.none, .bool false, .ref s.heap.objs.size, rawInt 0, .none, .none] }) (s.heap.objs.size + 1) s.heap.objs.size 0 .none := by
    have := Heap.get?_push_size (s.heap.push o) (o := { cls := .type "enumerate", data := .fields #[.none, .bool false, .ref s.heap.objs.size, rawInt 0, .none, .none] }) rfl
    rw [hz] at this; exact this
  refine ⟨⟨_, he, rfl⟩, h _ he (Heap.get?_push_of_some _ (Heap.get?_push_size _ B.free)) (by rw [Heap.size_push, hz]) fun b o x => Heap.get?_push_of_some _ (Heap.get?_push_of_some _ x)⟩
end PySem
namespace L2
open PySem PySem.Spec PyProof.Rows
def IteT (K : PySem.W.Frag) (a : Addr) : It :=
  ⟨fun i H => ∃ (xs : List V) (x : V), SqT K H a xs ∧ xs[i]? = some x, fun i H v H' => ∃ T x, v = .ref T ∧ H T = none ∧ H' = upd H T (.tup [.int (i : Nat), x]) ∧ ∀ xs, SqT K H a xs → xs[i]? = some x, fun i H => ∃ xs : List V, SqT K H a xs ∧ xs.length = i⟩
theorem turn_enumT {P : Program} {w : World} {K : PySem.W.Frag} {elts : List Expr} {kk : Nat} {tpos : Pos} (a e it : Addr) (hae : a ≠ e) (hai : a ≠ it) :
    Turn P w K (.Tuple elts kk tpos) (IteT K a) [e, it] e (fun i h => (∃ old, IsEnum h e it ((i : Nat) : Int) old) ∧ h.IsTupleIter it a i ∧ e ≠ it) where
  mem := by simp
  obj := fun i h st b hb => by
    obtain ⟨⟨old, he⟩, ⟨o, ho, hc, hd⟩, _⟩ := st
    have e' : b = e ∨ b = it := by simpa using hb
    rcases e' with z | z
    · rw [z]; exact ⟨_, he, fun v q => nomatch q⟩
    · rw [z]; exact ⟨o, ho, fun v q => by rw [hd] at q; cases q⟩
  keep := fun i h h' st k => let ⟨⟨old, he⟩, hi, hne⟩ := st; ⟨⟨old, k e (by simp) _ he⟩, hi.at fun o q => k it (by simp) o q, hne⟩
  item := by
    intro X hP hw hK hc i pins s σ H E I hf st hg
    subst hP hw hK
    obtain ⟨⟨old, he⟩, hit, hne⟩ := st
    obtain ⟨xs, x, hq, hx⟩ := hg
    obtain ⟨its, rv, p, hz⟩ := I.tuple hq
    obtain ⟨u, hu, ru⟩ := rv.get hx
    have hel : e < s.heap.objs.size := Heap.lt_size he
    have hil : it < s.heap.objs.size := by obtain ⟨_, q, _⟩ := hit; exact Heap.lt_size q
    have hil2 : i < its.length := (List.getElem?_eq_some_iff.mp hu).1
    refine wpAny_pyNext_enum_itemC (n := its.toArray.size) (Draws.tuple (A := X.A.in1) (show X.A.in1.handled = none from I.ok.hd hc) it a hai its.toArray) he ⟨hit, p⟩ (by simpa using hil2) hne (by simp only [List.mem_cons, List.not_mem_nil, or_false, not_or]; exact ⟨hne, Ne.symm hae⟩) fun y h' tk hP ho hst hT hsz hk => ?_
    obtain ⟨hit', _⟩ := hst
    have hy : y = u := by
      have q : its[i]? = some y := by simpa using hP
      rw [hu] at q; exact (Option.some.inj q).symm
    subst hy
    refine ⟨_, rfl, wpAny_letOwnedTupleGo_enum (s := { s with heap := h', toks := tk + 1 }) ho fun h'' he' sb => ?_⟩
    have hT2 : h''.get? s.heap.objs.size = some { cls := .type "tuple", data := .seq #[.int i tk, y] } := (sb.2 _ (Nat.ne_of_gt hel)).trans hT
    have new : ObjOk X.prog X.w (upd H s.heap.objs.size (.tup [.int (i : Nat), x])) h'' s.heap.objs.size (.tup [.int (i : Nat), x]) :=
      ⟨by show 2 ≤ sizeLine; decide, [.int i tk, y], .cons ⟨_, rfl⟩ (.cons ru .nil), ⟨_, hT2, rfl, _, rfl⟩⟩
    have I1 : Inv X pins σ (upd H s.heap.objs.size (.tup [.int (i : Nat), x])) { s with heap := h'', toks := tk + 1 } :=
      I.turnedNew (ch := [e, it]) (fun b ob hb q => (sb.2 b (fun z => hb (by simp [z]))).trans (hk b ob (fun z => hb (by simp [z])) (fun z => hb (by simp [z])) q)) hf (Nat.le_refl _) new
    refine ⟨.ref s.heap.objs.size, _, I1, rfl, ⟨_, x, rfl, I.hok.fresh (Nat.le_refl _), rfl, fun ys hy => by rw [I.tuple_inj hy hq]; exact hx⟩, ⟨⟨y, ?_⟩, hit'.at fun o q => (sb.2 it (Ne.symm hne)).trans q, hne⟩, fun b hb => ?_⟩
    · have e1 : ((i + 1 : Nat) : Int) = (i : Int) + 1 := by omega
      rw [e1]; exact he'
    · have hb' : b < s.heap.objs.size := by
        have e' : b = e ∨ b = it := by simpa using hb
        rcases e' with z | z
        · rw [z]; exact hel
        · rw [z]; exact hil
      rw [upd_ne (Nat.ne_of_lt hb')]
      exact (hf b hb).1
  done := by
    intro X hP hw hK hc i pins s σ H E I hf st hg
    subst hP hw hK
    obtain ⟨⟨old, he⟩, hit, hne⟩ := st
    obtain ⟨xs, hq, hx⟩ := hg
    obtain ⟨its, rv, p, hz⟩ := I.tuple hq
    obtain ⟨f0, f1, f2, f3, f4, f5⟩ := hf it (by simp)
    have hl := rv.length
    have e1 : its.toArray.size = i := by rw [List.size_toArray]; omega
    exact wpAny_pyNext_enum_endD (Draws.tuple (A := X.A.in1) (show X.A.in1.handled = none from I.ok.hd hc) it a hai its.toArray) he ⟨by rw [e1]; exact hit, p⟩ fun h' eb => ⟨rfl, I.turned (t' := s.toks) (fun b o hb q => eb b o hb q) f0 f1 f3 f4 f5⟩
  self := fun A i s Q E st h => let ⟨⟨_, he⟩, _⟩ := st; wpAny_pyIter_enum he h
def iEnumA (K : PySem.W.Frag) (ta : TA) : TI := fun σ H R => ta σ H fun vs H1 => ∃ a xs, vs = [.ref a] ∧ ((SqL K H1 a xs ∧ R (Ite K a) H1) ∨ (SqT K H1 a xs ∧ R (IteT K a) H1))
theorem pi_enumA {X : Cx} {e : Expr} {ta : TA} {p pos tpos : Pos} {elts : List Expr} {kk : Nat} (hg : Gl X "enumerate") (hm : X.mg "enumerate" = none) (ha : PA X [e] ta) (hs : starEach [e] X.env = [(false, eval e X.env)] := by rfl) :
    PI X (.Tuple elts kk tpos) (.Call (.Name "enumerate" p) [e] [] pos) (iEnumA X.K ta) := by
  refine ⟨fun pins s σ H R I h => ?_⟩
  refine Call_ (ld_blt I hg hm boot_enumerate (PyProof.Rows.callWith_type1 (thn (ha.run pos pins s σ H _ I h) fun us s1 ⟨vs, H1, I1, r1, q1⟩ => ?_) hs rfl))
  obtain ⟨a, xs, ex, hq⟩ := q1
  subst ex
  cases r1 with
  | cons r rr =>
    cases rr
    cases r
    have two : ∀ b, b ∈ [s1.heap.objs.size + 1, s1.heap.objs.size] → s1.heap.objs.size ≤ b := fun b hb => by
      have e' : b = s1.heap.objs.size + 1 ∨ b = s1.heap.objs.size := by simpa using hb
      rcases e' with z | z
      · rw [z]; exact Nat.le_add_right _ _
      · rw [z]; exact Nat.le_refl _
    rcases hq with ⟨hq, q⟩ | ⟨hq, q⟩
    · obtain ⟨its, rv, p', hz⟩ := I1.list hq
      refine call_enumerate_list p'.isList fun h' he hit hsz hk => wpAny_pyIter_enum he ?_
      have I2 : Inv X pins σ H1 { s1 with heap := h' } := I1.kept (t' := s1.toks) hk
      exact ⟨s1.heap.objs.size + 1, [s1.heap.objs.size + 1, s1.heap.objs.size], _, _, H1, rfl, I2, turn_enum a (s1.heap.objs.size + 1) s1.heap.objs.size, ⟨⟨.none, he⟩, hit, Nat.succ_ne_self _⟩, fun b hb => I1.fpOk (two b hb) (I1.hok.fresh (two b hb)), q⟩
    · obtain ⟨its, rv, p', hz⟩ := I1.tuple hq
      obtain ⟨o1, ho1, _⟩ := id p'
      have la : a < s1.heap.objs.size := Heap.lt_size ho1
      refine dn_call_enum (begins_tuple a its.toArray) (show s1.heap.IsTuple a its.toArray from p') fun h' he hit hsz hk => wpAny_pyIter_enum he ?_
      have I2 : Inv X pins σ H1 { s1 with heap := h' } := I1.kept (t' := s1.toks) hk
      exact ⟨s1.heap.objs.size + 1, [s1.heap.objs.size + 1, s1.heap.objs.size], _, _, H1, rfl, I2, turn_enumT a (s1.heap.objs.size + 1) s1.heap.objs.size (Nat.ne_of_lt (Nat.lt_succ_of_lt la)) (Nat.ne_of_lt la), ⟨⟨.none, he⟩, ⟨_, hit, rfl, rfl⟩, Nat.succ_ne_self _⟩, fun b hb => I1.fpOk (two b hb) (I1.hok.fresh (two b hb)), q⟩
end L2
namespace Dn
open PySem PySem.Spec PyProof.Rows L2
section
variable {X : Cx} {ct : Nat → Addr} {c : Cf} {W : WX} {K : PySem.W.Frag}
/-! what is walked: enumerate, zip -/
def iFnV (g : List D → Option (List D)) (a : DA) : DI := fun env => match a env with
  | .ok xs e => match clean xs with
    | some ds => match g ds with | some r => .ok r e | none => .no
    | none => .no
  | .ex q e => .ex q e
  | .no => .no
def ItSV (K : PySem.W.Frag) (ct : Nat → Addr) (r : List V → Hp → (It → Hp → Prop) → Prop) (g : List D → Option (List D)) : Prop := ∀ G H ds vs xs Rk, Same G H → RVs K ct G ds vs → g ds = some xs → (∀ G' H' J, Grow G H G' H' → ItR K ct J xs G' → Rk J H') → r vs H Rk
theorem sim_iFnV {r : List V → Hp → (It → Hp → Prop) → Prop} {g : List D → Option (List D)} {ta : TA} {a : DA} (hs : ItSV K ct r g) (ha : SimA K ct c W ta a) : SimI K ct c W (fun σ H R => ta σ H fun vs H1 => r vs H1 R) (iFnV g a) := fun G H env σ Rk rel p => by
  refine ha G H env σ _ rel ?_
  unfold iFnV at p
  cases ea : a env with
  | no => rw [ea] at p; exact p
  | ex q e1 => rw [ea] at p; exact p
  | ok x e1 =>
    rw [ea] at p
    intro G1 H1 v1 s1 R1 X1
    dsimp only at p
    cases z1 : clean x with
    | none => rw [z1] at p; exact p.elim
    | some ds =>
      rw [z1] at p
      dsimp only at p
      cases z2 : g ds with
      | none => rw [z2] at p; exact p.elim
      | some xs =>
        rw [z2] at p
        exact hs G1 H1 ds v1 xs Rk R1.sub (clean_rvs X1 z1) z2 fun G' H' J gr it => p G' H' J (s1.trans gr.stp) (R1.grow gr) it
def enumD : Nat → List D → List D
  | _, [] => []
  | n, x :: xs => .tup [.int (n : Nat), x] :: enumD (n + 1) xs
theorem enumD_len : ∀ (xs : List D) (n : Nat), (enumD n xs).length = xs.length
  | [], _ => rfl
  | x :: xs, n => by unfold enumD; rw [List.length_cons, List.length_cons, enumD_len xs]
theorem enumD_get : ∀ (xs : List D) (n i : Nat) (d : D), xs[i]? = some d → (enumD n xs)[i]? = some (.tup [.int ((n + i : Nat) : Nat), d])
  | [], _, i, d, h => by simp at h
  | x :: xs, n, 0, d, h => by simp at h; subst h; rfl
  | x :: xs, n, i + 1, d, h => by
    unfold enumD
    rw [List.getElem?_cons_succ, enumD_get xs (n + 1) i d (by simpa using h)]
    rw [show n + 1 + i = n + (i + 1) by omega]
theorem rv_pair {G' H : Hp} {T : Addr} {d1 d2 : D} {v1 v2 : V} (s : Same G' H) (hT : H T = none) (r1 : RV K ct G' d1 v1) (r2 : RV K ct G' d2 v2) : Grow G' H (upd G' T (.tup [v1, v2])) (upd H T (.tup [v1, v2])) ∧ RV K ct (upd G' T (.tup [v1, v2])) (.tup [d1, d2]) (.ref T) :=
  let g := Grow.new (o := .tup [v1, v2]) s hT
  ⟨g, .tup upd_same (.cons (r1.mono g.g) (.cons (r2.mono g.g) .nil))⟩
theorem ite_ok {p : Addr} {xs : List D} {vs : List V} {G : Hp} (h : G p = some (.lst vs)) (r : RVs K ct G xs vs) : ItR K ct (Ite K p) (enumD 0 xs) G where
  go := fun i G' H s1 s2 hi => by
    rw [enumD_len, r.len] at hi
    exact ⟨vs, vs[i], .inl (.inl (s2 _ _ (s1 _ _ h))), by simp [hi]⟩
  stop := fun G' H s1 s2 => ⟨vs, .inl (.inl (s2 _ _ (s1 _ _ h))), by rw [enumD_len, r.len]; exact Nat.le_refl _⟩
  yld := fun i G' H x H' s1 s2 hi ⟨T, y, e1, e2, e3, hy⟩ => by
    subst e1 e3
    obtain ⟨d, hd, rv⟩ := r.getV (hy vs (.inl (.inl (s2 _ _ (s1 _ _ h)))))
    obtain ⟨g, q⟩ := rv_pair s2 e2 (RV.int (K := K) (ct := ct) (G := G') (i : Nat)) (rv.mono s1)
    exact ⟨_, _, by rw [enumD_get xs 0 i d hd, Nat.zero_add], g, q⟩
theorem iteT_ok {p : Addr} {xs : List D} {vs : List V} {G : Hp} (h : G p = some (.tup vs)) (r : RVs K ct G xs vs) : ItR K ct (IteT K p) (enumD 0 xs) G where
  go := fun i G' H s1 s2 hi => by
    rw [enumD_len, r.len] at hi
    exact ⟨vs, vs[i], .inl (.inl (s2 _ _ (s1 _ _ h))), by simp [hi]⟩
  stop := fun G' H s1 s2 => ⟨vs, .inl (.inl (s2 _ _ (s1 _ _ h))), by rw [enumD_len, r.len]⟩
  yld := fun i G' H x H' s1 s2 hi ⟨T, y, e1, e2, e3, hy⟩ => by
    subst e1 e3
    obtain ⟨d, hd, rv⟩ := r.getV (hy vs (.inl (.inl (s2 _ _ (s1 _ _ h)))))
    obtain ⟨g, q⟩ := rv_pair s2 e2 (RV.int (K := K) (ct := ct) (G := G') (i : Nat)) (rv.mono s1)
    exact ⟨_, _, by rw [enumD_get xs 0 i d hd, Nat.zero_add], g, q⟩
def bEnum : List D → Option (List D)
  | [.lst xs] => some (enumD 0 xs)
  | [.tup xs] => some (enumD 0 xs)
  | _ => none
theorem ji_enum {elts : List Expr} {kk : Nat} {tpos : Pos} {e : Expr} {p pos : Pos} {d : DA} (hm : X.mg "enumerate" = none) (ha : JA X ct c W [e] d) (hg : Gl X "enumerate" := by rfl) (hs : starEach [e] X.env = [(false, eval e X.env)] := by rfl) : JI X ct c W (.Tuple elts kk tpos) (.Call (.Name "enumerate" p) [e] [] pos) (iFnV bEnum d) := by
  obtain ⟨t, p1, s1⟩ := ha
  refine ⟨_, pi_enumA hg hm p1 hs, sim_iFnV (r := fun vs H1 R => ∃ a xs, vs = [.ref a] ∧ ((SqL X.K H1 a xs ∧ R (Ite X.K a) H1) ∨ (SqT X.K H1 a xs ∧ R (IteT X.K a) H1))) (fun G H ds vs xs Rk s r e k => ?_) s1⟩
  unfold bEnum at e
  split at e
  · cases e
    cases r with
    | cons r1 rn =>
      cases rn
      cases r1 with
      | lst h rv => exact ⟨_, _, rfl, .inl ⟨.inl (.inl (s _ _ h)), k G H _ (.refl s) (ite_ok h rv)⟩⟩
  · cases e
    cases r with
    | cons r1 rn =>
      cases rn
      cases r1 with
      | tup h rv => exact ⟨_, _, rfl, .inr ⟨.inl (.inl (s _ _ h)), k G H _ (.refl s) (iteT_ok h rv)⟩⟩
  · cases e
def zipD : List D → List D → List D
  | x :: xs, y :: ys => .tup [x, y] :: zipD xs ys
  | _, _ => []
theorem zipD_len : ∀ xs ys : List D, (zipD xs ys).length = min xs.length ys.length
  | [], ys => by unfold zipD; simp
  | x :: xs, [] => by unfold zipD; simp
  | x :: xs, y :: ys => by unfold zipD; rw [List.length_cons, zipD_len xs ys]; simp
theorem zipD_get : ∀ (xs ys : List D) (i : Nat) (d e : D), xs[i]? = some d → ys[i]? = some e → (zipD xs ys)[i]? = some (.tup [d, e])
  | [], _, i, d, e, h, _ => by simp at h
  | _ :: _, [], i, d, e, _, h => by simp at h
  | x :: xs, y :: ys, 0, d, e, h1, h2 => by simp at h1 h2; subst h1 h2; rfl
  | x :: xs, y :: ys, i + 1, d, e, h1, h2 => by
    unfold zipD
    rw [List.getElem?_cons_succ, zipD_get xs ys i d e (by simpa using h1) (by simpa using h2)]
theorem itz_ok {p q : Addr} {xs ys : List D} {vs us : List V} {G : Hp} (h : G p = some (.lst vs)) (h' : G q = some (.lst us)) (r : RVs K ct G xs vs) (r' : RVs K ct G ys us) : ItR K ct (Itz K p q) (zipD xs ys) G where
  go := fun i G' H s1 s2 hi => by
    rw [zipD_len, r.len, r'.len] at hi
    exact ⟨vs, us, vs[i]'(by omega), us[i]'(by omega), .inl (.inl (s2 _ _ (s1 _ _ h))), .inl (.inl (s2 _ _ (s1 _ _ h'))), by simp, by simp⟩
  stop := fun G' H s1 s2 => ⟨vs, us, .inl (.inl (s2 _ _ (s1 _ _ h))), .inl (.inl (s2 _ _ (s1 _ _ h'))), by rw [zipD_len, r.len, r'.len]; omega⟩
  yld := fun i G' H x H' s1 s2 hi ⟨T, y, z, e1, e2, e3, hy, hz⟩ => by
    subst e1 e3
    obtain ⟨d, hd, rv⟩ := r.getV (hy vs (.inl (.inl (s2 _ _ (s1 _ _ h)))))
    obtain ⟨d', hd', rv'⟩ := r'.getV (hz us (.inl (.inl (s2 _ _ (s1 _ _ h')))))
    obtain ⟨g, q⟩ := rv_pair s2 e2 (rv.mono s1) (rv'.mono s1)
    exact ⟨_, _, zipD_get xs ys i d d' hd hd', g, q⟩
theorem itzT_ok {p q : Addr} {xs ys : List D} {vs us : List V} {G : Hp} (h : G p = some (.tup vs)) (h' : G q = some (.tup us)) (r : RVs K ct G xs vs) (r' : RVs K ct G ys us) : ItR K ct (RZ.ItzT K p q) (zipD xs ys) G where
  go := fun i G' H s1 s2 hi => by
    rw [zipD_len, r.len, r'.len] at hi
    exact ⟨vs, us, vs[i]'(by omega), us[i]'(by omega), .inl (.inl (s2 _ _ (s1 _ _ h))), .inl (.inl (s2 _ _ (s1 _ _ h'))), by simp, by simp⟩
  stop := fun G' H s1 s2 => ⟨vs, us, .inl (.inl (s2 _ _ (s1 _ _ h))), .inl (.inl (s2 _ _ (s1 _ _ h'))), by rw [zipD_len, r.len, r'.len]; omega⟩
  yld := fun i G' H x H' s1 s2 hi ⟨T, y, z, e1, e2, e3, hy, hz⟩ => by
    subst e1 e3
    obtain ⟨d, hd, rv⟩ := r.getV (hy vs (.inl (.inl (s2 _ _ (s1 _ _ h)))))
    obtain ⟨d', hd', rv'⟩ := r'.getV (hz us (.inl (.inl (s2 _ _ (s1 _ _ h')))))
    obtain ⟨g, q⟩ := rv_pair s2 e2 (rv.mono s1) (rv'.mono s1)
    exact ⟨_, _, zipD_get xs ys i d d' hd hd', g, q⟩
def bZip : List D → Option (List D)
  | [.lst xs, .lst ys] => some (zipD xs ys)
  | [.tup xs, .tup ys] => some (zipD xs ys)
  | _ => none
theorem ji_zip {elts : List Expr} {kk : Nat} {tpos : Pos} {e e2 : Expr} {p pos : Pos} {d : DA} (hm : X.mg "zip" = none) (ha : JA X ct c W [e, e2] d) (hg : Gl X "zip" := by rfl) (hs : starEach [e, e2] X.env = (false, eval e X.env) :: starEach [e2] X.env := by rfl) (hpl : (backTo pos (starEach [e2] X.env)).any (·.1) = false := by rfl) : JI X ct c W (.Tuple elts kk tpos) (.Call (.Name "zip" p) [e, e2] [] pos) (iFnV bZip d) := by
  obtain ⟨t, p1, s1⟩ := ha
  refine ⟨_, RZ.pi_zipA hg hm p1 hs hpl, sim_iFnV (r := fun vs H1 R => ∃ a b xs ys, vs = [.ref a, .ref b] ∧ ((SqL X.K H1 a xs ∧ SqL X.K H1 b ys ∧ R (Itz X.K a b) H1) ∨ (SqT X.K H1 a xs ∧ SqT X.K H1 b ys ∧ R (RZ.ItzT X.K a b) H1))) (fun G H ds vs xs Rk s r e k => ?_) s1⟩
  unfold bZip at e
  split at e
  · cases e
    cases r with
    | cons r1 rn =>
      cases rn with
      | cons r2 rn =>
        cases rn
        cases r1 with
        | lst h rv =>
          cases r2 with
          | lst h' rv' => exact ⟨_, _, _, _, rfl, .inl ⟨.inl (.inl (s _ _ h)), .inl (.inl (s _ _ h')), k G H _ (.refl s) (itz_ok h h' rv rv')⟩⟩
  · cases e
    cases r with
    | cons r1 rn =>
      cases rn with
      | cons r2 rn =>
        cases rn
        cases r1 with
        | tup h rv =>
          cases r2 with
          | tup h' rv' => exact ⟨_, _, _, _, rfl, .inr ⟨.inl (.inl (s _ _ h)), .inl (.inl (s _ _ h')), k G H _ (.refl s) (itzT_ok h h' rv rv')⟩⟩
  · cases e
/-! *e in a display -/
def aStar (a : DE) (r : DA) : DA := fun env => match a env with
  | .ok x e1 => match rd e1 x with
    | some (.tup xs) => match r e1 with
      | .ok ys e2 => .ok (xs.map Rv.val ++ ys) e2
      | .ex q e2 => .ex q e2
      | .no => .no
    | some (.lst xs) => match r e1 with
      | .ok ys e2 => .ok (xs.map Rv.val ++ ys) e2
      | .ex q e2 => .ex q e2
      | .no => .no
    | _ => .no
  | .ex q e1 => .ex q e1
  | .no => .no
theorem rxs_app {G H : Hp} {σ : L2.St} : ∀ {xs : List D} {vs : List V} {rs : List Rv} {us : List V}, RVs K ct G xs vs → RXs K ct c G H σ rs us → RXs K ct c G H σ (xs.map Rv.val ++ rs) (vs ++ us)
  | _, _, _, _, .nil, h => h
  | _, _, _, _, .cons r t, h => .cons r (rxs_app t h)
theorem ja_star {e : Expr} {es : List Expr} {d : DE} {r : DA} {p : Pos} (he : JE X ct c W false e d) (hr : JA X ct c W es r) (hs : starEach (.Starred e p :: es) X.env = (true, eval e X.env) :: starEach es X.env := by rfl) : JA X ct c W (.Starred e p :: es) (aStar d r) := by
  obtain ⟨ta, pa, sa⟩ := he
  obtain ⟨tb, pb, sb⟩ := hr
  refine ⟨_, StX.pa_star pa pb hs, fun G H env σ Q rel p => ?_⟩
  refine sa G H env σ _ rel ?_
  unfold aStar at p
  cases ea : d env with
  | no => rw [ea] at p; exact p
  | ex q e1 => rw [ea] at p; exact p
  | ok x e1 =>
    rw [ea] at p
    intro G1 H1 v1 s1 R1 X1 _
    dsimp only at p
    cases z : rd e1 x with
    | none => rw [z] at p; exact p.elim
    | some dx =>
      rw [z] at p
      cases dx with
      | tup xs =>
        dsimp only at p
        obtain ⟨q, vs, rfl, hq, gq, rv⟩ := (X1.rd R1 z).tup_inv R1.sub
        refine ⟨q, vs, rfl, .inl (.inl (.inl hq)), sb G1 H1 e1 σ _ R1 ?_⟩
        cases eb : r e1 with
        | no => rw [eb] at p; exact p
        | ex q e2 => rw [eb] at p; exact fun G' H' cls dd s R e => p G' H' cls dd (s1.trans s) R e
        | ok y e2 => rw [eb] at p; exact fun G' H' us s R h => p G' H' _ (s1.trans s) R (rxs_app (rv.mono s.g) h)
      | lst xs =>
        dsimp only at p
        obtain ⟨q, vs, rfl, hq, rv⟩ := (X1.rd R1 z).lst_inv R1.sub
        refine ⟨q, vs, rfl, .inr (.inl (.inl hq)), sb G1 H1 e1 σ _ R1 ?_⟩
        cases eb : r e1 with
        | no => rw [eb] at p; exact p
        | ex q e2 => rw [eb] at p; exact fun G' H' cls dd s R e => p G' H' cls dd (s1.trans s) R e
        | ok y e2 => rw [eb] at p; exact fun G' H' us s R h => p G' H' _ (s1.trans s) R (rxs_app (rv.mono s.g) h)
      | _ => exact p.elim
/-! slices -/
inductive RP where
  | ok (i : Option Int) (env : Env) | ex (x : Ex) (env : Env) | no
abbrev DP := Env → RP
def pNone : DP := fun env => .ok none env
def pSome (a : DE) : DP := fun env => match a env with
  | .ok x e1 => match rd e1 x with
    | some (.int i) => .ok (some i) e1
    | _ => .no
  | .ex q e1 => .ex q e1
  | .no => .no
def PostP (K : PySem.W.Frag) (ct : Nat → Addr) (c : Cf) (W : WX) (G H : Hp) (σ : L2.St) (Q : Option Int → Hp → Prop) : RP → Prop
  | .ok i env' => ∀ G' H', Stp c σ G H G' H' → Rel K ct c G' H' env' σ → Q i H'
  | .ex x env' => ∀ G' H' cls dd, Stp c σ G H G' H' → Rel K ct c G' H' env' σ → RE K ct G' x cls dd → W cls dd σ H'
  | .no => False
def SimP (K : PySem.W.Frag) (ct : Nat → Addr) (c : Cf) (W : WX) (t : L2.TO) (e : DP) : Prop := ∀ G H env σ Q, Rel K ct c G H env σ → PostP K ct c W G H σ Q (e env) → t σ H Q
def JP (X : Cx) (ct : Nat → Addr) (c : Cf) (W : WX) (e : Option Expr) (d : DP) : Prop := ∃ t, PO X e t ∧ SimP X.K ct c W t d
theorem jp_none : JP X ct c W none pNone := ⟨_, po_none, fun G H env σ Q rel p => p G H .refl rel⟩
theorem jp_some {e : Expr} {d : DE} (he : JE X ct c W false e d) : JP X ct c W (some e) (pSome d) := by
  obtain ⟨ta, pa, sa⟩ := he
  refine ⟨_, po_some pa, fun G H env σ Q rel p => ?_⟩
  refine sa G H env σ _ rel ?_
  unfold pSome at p
  cases ea : d env with
  | no => rw [ea] at p; exact p
  | ex q e1 => rw [ea] at p; exact p
  | ok x e1 =>
    rw [ea] at p
    intro G1 H1 v1 s1 R1 X1 _
    dsimp only at p
    cases z : rd e1 x with
    | none => rw [z] at p; exact p.elim
    | some dx =>
      rw [z] at p
      cases dx with
      | int i => exact ⟨i, (X1.rd R1 z).int_inv, p G1 H1 s1 R1⟩
      | _ => exact p.elim
def dSl (g : D → Option Int → Option Int → Option D) (a : DE) (lo hi : DP) : DE := fun env => match a env with
  | .ok x e1 => match lo e1 with
    | .ok l e2 => match hi e2 with
      | .ok u e3 => match rd e3 x with
        | some dx => match g dx l u with | some d => .ok (.val d) e3 | none => .no
        | none => .no
      | .ex q e3 => .ex q e3
      | .no => .no
    | .ex q e2 => .ex q e2
    | .no => .no
  | .ex q e1 => .ex q e1
  | .no => .no
def SlS (K : PySem.W.Frag) (ct : Nat → Addr) (f : Bool) (r : V → Option Int → Option Int → Hp → VK → Prop) (g : D → Option Int → Option Int → Option D) : Prop := ∀ G H dx x lo hi d Q, Same G H → RD K ct G H dx x → g dx lo hi = some d → Out K ct f G H d Q → r x lo hi H Q
theorem je_sl {f : Bool} {r : V → Option Int → Option Int → Hp → VK → Prop} {g : D → Option Int → Option Int → Option D} {e : Expr} {lo hi : Option Expr} {d : DE} {dl du : DP} {p2 pos : Pos} (hr : SlR X r) (hs : SlS X.K ct f r g) (he : JE X ct c W false e d) (hl : JP X ct c W lo dl) (hu : JP X ct c W hi du) : JE X ct c W f (.Subscript e (.Slice lo hi none p2) pos) (dSl g d dl du) := by
  obtain ⟨ta, pa, sa⟩ := he
  obtain ⟨tl, pl, sl⟩ := hl
  obtain ⟨tu, pu, su⟩ := hu
  refine ⟨_, pe_slice hr pa pl pu, fun G H env σ Q rel p => ?_⟩
  refine sa G H env σ _ rel ?_
  unfold dSl at p
  cases ea : d env with
  | no => rw [ea] at p; exact p
  | ex q e1 => rw [ea] at p; exact p
  | ok x e1 =>
    rw [ea] at p
    intro G1 H1 v1 s1 R1 X1 _
    dsimp only at p
    refine sl G1 H1 e1 σ _ R1 ?_
    cases eb : dl e1 with
    | no => rw [eb] at p; exact p
    | ex q e2 => rw [eb] at p; exact fun G' H' cls dd s R e => p G' H' cls dd (s1.trans s) R e
    | ok l e2 =>
      rw [eb] at p
      intro G2 H2 s2 R2
      dsimp only at p
      refine su G2 H2 e2 σ _ R2 ?_
      cases ec : du e2 with
      | no => rw [ec] at p; exact p
      | ex q e3 => rw [ec] at p; exact fun G' H' cls dd s R e => p G' H' cls dd ((s1.trans s2).trans s) R e
      | ok u e3 =>
        rw [ec] at p
        intro G3 H3 s3 R3
        dsimp only at p
        cases z : rd e3 x with
        | none => rw [z] at p; exact p.elim
        | some dx =>
          rw [z] at p
          dsimp only at p
          cases z3 : g dx l u with
          | none => rw [z3] at p; exact p.elim
          | some dd =>
            rw [z3] at p
            exact hs G3 H3 dx v1 l u dd Q R3.sub ((X1.mono (H' := H3) (s2.g.trans s3.g)).rd R3 z) z3 (Out.post R3 ((s1.trans s2).trans s3) p)
theorem RVs.cut {G : Hp} {xs : List D} {vs : List V} (r : RVs K ct G xs vs) (lo hi : Option Int) : RVs K ct G (cutD xs lo hi) (cutV vs lo hi) := by
  unfold cutD cutV
  rw [r.len]
  exact (r.drop _).take _
def gSlL : D → Option Int → Option Int → Option D
  | .lst xs, lo, hi => some (.lst (cutD xs lo hi))
  | _, _, _ => none
theorem ss_list : SlS K ct true (rSlL K) gSlL := fun G H dx x lo hi d Q s r e o => by
  unfold gSlL at e
  split at e
  · cases e
    obtain ⟨p, vs, rfl, hp, rv⟩ := r.lst_inv s
    exact ⟨p, vs, rfl, .inl (.inl hp), fun q hq => o.newL s hq (rv.cut _ _)⟩
  · cases e
def gSlV : D → Option Int → Option Int → Option D
  | .lst xs, lo, hi => some (.lst (cutD xs lo hi))
  | .tup xs, lo, hi => some (.tup (cutD xs lo hi))
  | .str z, lo, hi => if z.length ≤ 1000000 then some (.str (cutS z lo hi)) else none
  | _, _, _ => none
theorem cut_all {xs : List V} {lo hi : Option Int} (h : HT.sIx xs.length 0 lo = 0 ∧ HT.sIx xs.length xs.length hi = xs.length) : cutV xs lo hi = xs := by
  unfold cutV
  rw [h.1, h.2]
  simp
theorem cutD_all {xs : List D} {lo hi : Option Int} (h : HT.sIx xs.length 0 lo = 0 ∧ HT.sIx xs.length xs.length hi = xs.length) : cutD xs lo hi = xs := by
  unfold cutD
  rw [h.1, h.2]
  simp
def rSlV (K : PySem.W.Frag) : V → Option Int → Option Int → Hp → VK → Prop := fun x lo hi H Q => (rSlL K x lo hi H Q ∨ rSlA K x lo hi H Q) ∨ rSlS x lo hi H Q
theorem sl_any : SlR X (rSlV X.K) := SlR.or (SlR.or sl_list sl_tupA) sl_str
theorem ss_any : SlS K ct false (rSlV K) gSlV := fun G H dx x lo hi d Q s r e o => by
  unfold gSlV at e
  split at e
  · cases e
    obtain ⟨p, vs, rfl, hp, rv⟩ := r.lst_inv s
    exact .inl (.inl ⟨p, vs, rfl, .inl (.inl hp), fun q hq => o.frz.newL s hq (rv.cut _ _)⟩)
  · cases e
    obtain ⟨p, vs, rfl, hp, gp, rv⟩ := r.tup_inv s
    refine .inl (.inr ⟨p, vs, rfl, .inl (.inl hp), fun z => ?_, fun _ q hq => o.newT s hq (rv.cut _ _)⟩)
    have z2 := z
    rw [← rv.len] at z2
    rw [cutD_all z2] at o
    exact o.val s (.tup gp rv)
  · split at e
    · rename_i hl
      cases e
      exact .inr ⟨_, r.str_inv, Nat.le_trans hl million, o.val s (.str _)⟩
    · cases e
  · cases e
end
end Dn

namespace Dn
open PySem PySem.Spec PyProof.Rows L2
/-! the head's facts -/
abbrev FnP (K : PySem.W.Frag) (x : Str) (st : Stmt) (f : Addr) (fd : FuncData) : Prop := FunD K x x (defArgs st) (defBody st) (defScope st) [] [] f fd
def dd (x : Str) (st : Stmt) : He.DefD := ⟨(x, none), x, x, defArgs st, defBody st, defScope st, [], []⟩
theorem fun_of {K : PySem.W.Frag} {x : Str} {st : Stmt} {f : Addr} {fd : FuncData} (F : FnP K x st f fd) : Fun K x x st f fd := by
  obtain ⟨oc, od, dV, kV, doc, pm, an, cdv, ct, osl, e, lk, hcd, hD, hK⟩ := F.ex
  rcases hD with ⟨_, rfl⟩ | ⟨z, _⟩
  · exact ⟨⟨oc, od, kV, doc, pm, an, cdv, ct, osl, e, lk, hcd⟩, F.kp⟩
  · exact absurd rfl z
/-- the classes' names, by number -/
def exn (n : Nat) : Str := ([("BadShuffle" : Str), "Unlike", "BadTimes", "BadCards", "BadNumber", "BadLot", "BadPacks", "BadKind", "BadSeen", "BadPlace", "BadText", "ShuffleError", "Deck"] : List Str).getD n ""
def ctK (K : PySem.W.Frag) (i : Nat) : Addr := He.ga K (exn i)
def exFa (L : List Nat) : List He.Fa := L.flatMap fun i => L.map fun j => .exm (exn i) (exn j) (i == j)
section
variable {K : PySem.W.Frag} {mg : Str → Option Value} {h : Heap} {fas : List He.Fa} {dfs : List He.DefD}
theorem defT_of {x : Str} {st : Stmt} {ps : List Str} (X : K.In h) (G : h.Ns mainGlobals mg) (c : He.SaysD fas dfs K) (i j : Nat) (hi : dfs[i]? = some (dd x st)) (hj : fas[j]? = some (.glo x))
    (hb : ∀ (kV doc pm : Value) (an : Option Addr) (cdv ct : Value) (us : List Value), us.length = ps.length → bindArgs (PySem.W.fnOf x x (defArgs st) (defBody st) (defScope st) .none kV doc pm an cdv ct) ⟨us, []⟩ = pure (ps.zip us)) : DefT K mg x st ps := by
  obtain ⟨fd, F⟩ := c.def_ i hi
  have F2 : FnP K x st (He.ga K x) fd := F
  exact ⟨He.ga K x, fd, fun_of F2, He.glo_ok X G (c.fact j hj), F2.bindsN hb⟩
theorem xtxt_of {x : Str} {n : Nat} (X : K.In h) (G : h.Ns mainGlobals mg) (c : He.SaysD fas dfs K) (i j : Nat) (hi : fas[i]? = some (.exc x)) (hj : fas[j]? = some (.glo x)) (hx : exn n = x) : XTxt K mg (ctK K) x n := by
  subst hx
  obtain ⟨a, b, e, d⟩ := He.exc_ok (c.fact i hi)
  exact ⟨He.glo_ok X G (c.fact j hj), a, b, e, d⟩
theorem ext_of {L : List Nat} {fs : List He.Fa} (c : He.SaysD (fs ++ exFa L) dfs K) : ExT K (ctK K) L := fun i j hi hj => by
  have hm : He.Fa.exm (exn i) (exn j) (i == j) ∈ fs ++ exFa L := by
    refine List.mem_append_right _ (List.mem_flatMap.mpr ⟨i, ?_, List.mem_map.mpr ⟨j, ?_, rfl⟩⟩)
    · exact List.contains_iff_mem.mp hi
    · exact List.contains_iff_mem.mp hj
  obtain ⟨k, hk⟩ := List.getElem?_of_mem hm
  exact He.exm_ok (c.fact k hk)
end
/-! the end -/
theorem walk_ofW {l : PySem.W.OpenLaw} {n k : Nat} {q : Program} {loose : List Str} {XP : (Str → Option Value) → Heap → Prop} {YP : World → Heap → Prop} {d : DefRec} {x : Str}
    (hn : l.most = some n) (hn2 : n ≤ sizeLine) (hdf : d.params.defaults = []) (hr : Room k callerA)
    (F : ∀ (w : World) (mg : Str → Option Value) (fa : Addr) (h : Heap), YP w h → h.Ns mainGlobals mg → mg d.name = some (.ref fa) →
      ∃ (K : PySem.W.Frag) (fd : FuncData) (sp : Sp), K.In h ∧ (∀ (s : Shared) (u : Value), BindsTo s fd ⟨[u], []⟩ [(x, u)]) ∧
        (∀ (H : Hp) (a : Addr) (ns : List Int), ns.length ≤ n → SqL K H a (ns.map V.int) → sp [.ref a] H (fun v _ => v = .bl true) fun _ _ _ => False) ∧
        ∀ base : Heap, FnOk l.prog w K mg base (L2.CX l.prog w) k fa fd [x] sp) :
    PySem.W.WalkO q loose XP YP l.row.toRowW d [] (fun f vs => PySem.call f vs) := by
  refine Att.attach_call hn hdf fun w s₀ s₁ mg mb fa o pm cd doc a vs ns G Y ho hd hcd hmg hobj hints hlen hg => ?_
  obtain ⟨K, fd, sp, KX, hb, hsp, hF⟩ := F w mg fa _ Y G.T.g hmg
  refine law_call KX G.T.g G.T.b G.T.builtins G.T.nolimit hg hobj hints (Nat.le_trans hlen hn2) hr (fun base _ _ => hF base) hb (fun H hO hS => hsp H a ns hlen hS) fun H e s' hx => ?_
  obtain ⟨_, _, _, _, _, _, _, _, _, _, _, _, z⟩ := hx
  exact z
theorem law_sp {K : PySem.W.Frag} {ct : Nat → Addr} {df : DF} {H : Hp} {a : Addr} {ns : List Int} (hS : SqL K H a (ns.map V.int)) (h : df [.fls (ns.map D.int)] = .ok (.bl true) .non) :
    spF K ct 1 false df [.ref a] H (fun v _ => v = .bl true) fun _ _ _ => False := by
  refine ⟨H, [.fls (ns.map D.int)], none, ⟨.refl _, fun _ _ h => h⟩, rfl, ⟨rfl, .cons (.fls hS RVs.ofInts) .nil⟩, ?_⟩
  rw [h]
  intro G' H' v _ _ r
  exact r.bl_inv
theorem sgv_nm {K : PySem.W.Frag} {ct : Nat → Addr} {c : Cf} {i : Nat} {vs : List Nat} (hi : decide (i ∈ c.own) = false) (hv : decide (i ∈ vs) = true) : SimGV K ct c vs (gName i) (gN i) := sgv_name (of_decide_eq_false hi) (of_decide_eq_true hv)
end Dn

namespace Dn
open PySem PySem.Spec PyProof.Rows L2
/-! dicts: keys, finding, putting -/
def keyD : D → Option Key
  | .int i => some (.inl i)
  | .str x => some (.inr x)
  | _ => none
def keysD : List D → Option (List Key)
  | [] => some []
  | d :: r => match keyD d, keysD r with
    | some k, some ks => some (k :: ks)
    | _, _ => none
def findD {κ : Type} [DecidableEq κ] (kvs : List (κ × D)) (k : κ) : Option D := (kvs.find? fun kv => decide (kv.1 = k)).map (·.2)
def putD {κ : Type} [DecidableEq κ] (kvs : List (κ × D)) (k : κ) (v : D) : List (κ × D) :=
  if (kvs.any fun kv => decide (kv.1 = k)) = true then kvs.map (fun kv => if kv.1 = k then (kv.1, v) else kv) else kvs ++ [(k, v)]
def keyVal : Key → D
  | .inl i => .int i
  | .inr x => .str x
section
variable {K : PySem.W.Frag} {ct : Nat → Addr} {G H : Hp}
theorem keyD_rv {d : D} {v : V} {k : Key} (r : RD K ct G H d v) (e : keyD d = some k) : v = kV k := by
  cases d with
  | int i => cases e; exact r.int_inv
  | str x => cases e; exact r.str_inv
  | _ => cases e
theorem keysD_rv : ∀ {ds : List D} {vs : List V} {ks : List Key}, RVs K ct G ds vs → keysD ds = some ks → vs = ks.map kV
  | [], _, _, .nil, e => by cases e; rfl
  | d :: ds, _, ks, .cons r t, e => by
    unfold keysD at e
    split at e
    · rename_i k ks' e1 e2
      cases e
      rw [keyD_rv (H := G) (.inl r) e1, keysD_rv t e2]
      rfl
    · cases e
theorem keyVal_rv (k : Key) : RV K ct G (keyVal k) (kV k) := by
  cases k with
  | inl i => exact .int i
  | inr x => exact .str x
def OptR (K : PySem.W.Frag) (ct : Nat → Addr) (G : Hp) : Option D → Option V → Prop
  | none, none => True
  | some d, some v => RV K ct G d v
  | _, _ => False
theorem OptR.isSome {o : Option D} {p : Option V} (h : OptR K ct G o p) : o.isSome = p.isSome := by
  cases o <;> cases p <;> first | rfl | exact h.elim
theorem OptR.none_of {p : Option V} (h : OptR K ct G none p) : p = none := by
  cases p with
  | none => rfl
  | some _ => exact h.elim
theorem OptR.some_of {d : D} {p : Option V} (h : OptR K ct G (some d) p) : ∃ v, p = some v ∧ RV K ct G d v := by
  cases p with
  | none => exact h.elim
  | some v => exact ⟨v, rfl, h⟩
theorem findD_cons {κ : Type} [DecidableEq κ] (q : κ × D) (r : List (κ × D)) (k : κ) : findD (q :: r) k = if q.1 = k then some q.2 else findD r k := by
  unfold findD
  rw [List.find?_cons]
  by_cases e : q.1 = k
  · simp [e]
  · simp [e]
theorem RKs.find {k : Key} : ∀ {xs : List (Key × D)} {vs : List (Key × V)}, RKs K ct G xs vs → OptR K ct G (findD xs k) (valV vs k)
  | _, _, .nil => trivial
  | _, _, .cons (k := k') r t => by
    rw [findD_cons]
    by_cases e : k' = k
    · rw [if_pos e, valV_pos e]; exact r
    · rw [if_neg e, valV_neg e]; exact RKs.find t
theorem RTs.find {k : List Key} : ∀ {xs : List (List Key × D)} {vs : List (List Key × V)}, RTs K ct G xs vs → OptR K ct G (findD xs k) (valV vs k)
  | _, _, .nil => trivial
  | _, _, .cons (k := k') r t => by
    rw [findD_cons]
    by_cases e : k' = k
    · rw [if_pos e, valV_pos e]; exact r
    · rw [if_neg e, valV_neg e]; exact RTs.find t
theorem RTs.len : ∀ {ds : List (List Key × D)} {vs : List (List Key × V)}, RTs K ct G ds vs → ds.length = vs.length
  | _, _, .nil => rfl
  | _, _, .cons _ t => by rw [List.length_cons, List.length_cons, RTs.len t]
theorem RKs.append : ∀ {xs ys : List (Key × D)} {vs us : List (Key × V)}, RKs K ct G xs vs → RKs K ct G ys us → RKs K ct G (xs ++ ys) (vs ++ us)
  | _, _, _, _, .nil, s => s
  | _, _, _, _, .cons r t, s => .cons r (RKs.append t s)
theorem RTs.append : ∀ {xs ys : List (List Key × D)} {vs us : List (List Key × V)}, RTs K ct G xs vs → RTs K ct G ys us → RTs K ct G (xs ++ ys) (vs ++ us)
  | _, _, _, _, .nil, s => s
  | _, _, _, _, .cons r t, s => .cons r (RTs.append t s)
theorem RKs.any {k : Key} : ∀ {xs : List (Key × D)} {vs : List (Key × V)}, RKs K ct G xs vs → (xs.any fun kv => decide (kv.1 = k)) = vs.any fun kv => decide (kv.1 = k)
  | _, _, .nil => rfl
  | _, _, .cons r t => by rw [List.any_cons, List.any_cons, RKs.any t]
theorem RTs.any {k : List Key} : ∀ {xs : List (List Key × D)} {vs : List (List Key × V)}, RTs K ct G xs vs → (xs.any fun kv => decide (kv.1 = k)) = vs.any fun kv => decide (kv.1 = k)
  | _, _, .nil => rfl
  | _, _, .cons r t => by rw [List.any_cons, List.any_cons, RTs.any t]
theorem RKs.repl {k : Key} {d : D} {v : V} (q : RV K ct G d v) : ∀ {xs : List (Key × D)} {vs : List (Key × V)}, RKs K ct G xs vs → RKs K ct G (xs.map fun kv => if kv.1 = k then (kv.1, d) else kv) (vs.map fun kv => if kv.1 = k then (kv.1, v) else kv)
  | _, _, .nil => .nil
  | _, _, .cons (k := k') r t => by
    rw [List.map_cons, List.map_cons]
    by_cases e : k' = k
    · simp only [e, if_true]; exact .cons q (RKs.repl q t)
    · simp only [e, if_false]; exact .cons r (RKs.repl q t)
theorem RTs.repl {k : List Key} {d : D} {v : V} (q : RV K ct G d v) : ∀ {xs : List (List Key × D)} {vs : List (List Key × V)}, RTs K ct G xs vs → RTs K ct G (xs.map fun kv => if kv.1 = k then (kv.1, d) else kv) (vs.map fun kv => if kv.1 = k then (kv.1, v) else kv)
  | _, _, .nil => .nil
  | _, _, .cons (k := k') r t => by
    rw [List.map_cons, List.map_cons]
    by_cases e : k' = k
    · simp only [e, if_true]; exact .cons q (RTs.repl q t)
    · simp only [e, if_false]; exact .cons r (RTs.repl q t)
theorem RKs.put {k : Key} {d : D} {v : V} {xs : List (Key × D)} {vs : List (Key × V)} (r : RKs K ct G xs vs) (q : RV K ct G d v) : RKs K ct G (putD xs k d) (putK vs k v) := by
  unfold putD putK
  rw [r.any]
  split
  · exact r.repl q
  · exact r.append (.cons q .nil)
theorem RTs.put {k : List Key} {d : D} {v : V} {xs : List (List Key × D)} {vs : List (List Key × V)} (r : RTs K ct G xs vs) (q : RV K ct G d v) : RTs K ct G (putD xs k d) (putK vs k v) := by
  unfold putD putK
  rw [r.any]
  split
  · exact r.repl q
  · exact r.append (.cons q .nil)
def gDGet : D → D → Option (Option D)
  | .dK kvs, k => (keyD k).map (findD kvs)
  | .dT kvs, .tup ks => (keysD ks).map (findD kvs)
  | _, _ => none
theorem dget_ok {dd dk : D} {x y : V} {r : Option D} (s : Same G H) (r1 : RD K ct G H dd x) (r2 : RD K ct G H dk y) (h : gDGet dd dk = some r) : ∃ a o, x = .ref a ∧ IsD H a ∧ DGet H a y o ∧ OptR K ct G r o := by
  unfold gDGet at h
  split at h
  · obtain ⟨a, vs, rfl, ha, rk⟩ := r1.dK_inv s
    cases e : keyD dk with
    | none => rw [e] at h; cases h
    | some k =>
      rw [e] at h
      cases h
      rw [keyD_rv r2 e]
      exact ⟨a, _, rfl, .inl ⟨vs, .inl ha⟩, DGet.k ha, rk.find⟩
  · rename_i kvs ks
    obtain ⟨a, vs, rfl, ha, rk⟩ := r1.dT_inv s
    obtain ⟨b, us, rfl, hb, _, ru⟩ := r2.tup_inv s
    cases e : keysD ks with
    | none => rw [e] at h; cases h
    | some k =>
      rw [e] at h
      cases h
      rw [keysD_rv ru e] at hb
      exact ⟨a, _, rfl, .inr ⟨vs, .inl ha⟩, DGet.t ha hb, rk.find⟩
  · cases h
def gDPut : D → D → D → Option D
  | .dK kvs, k, v => if kvs.length < 1000000 then (keyD k).map fun k => .dK (putD kvs k v) else none
  | .dT kvs, .tup ks, v => if kvs.length < 1000000 then (keysD ks).map fun k => .dT (putD kvs k v) else none
  | _, _, _ => none
theorem dput_ok {dd dk dv d' : D} {p : Addr} {y v : V} (s : Same G H) (r1 : ROwn K ct G H dd (.ref p)) (r2 : RD K ct G H dk y) (r3 : RV K ct G dv v) (h : gDPut dd dk dv = some d') : ∃ o, DPut H p y v (upd H p o) ∧ ROwn K ct G (upd H p o) d' (.ref p) := by
  unfold gDPut at h
  split at h
  · obtain ⟨vs, ha, gp, rk⟩ := r1
    split at h
    · rename_i hl
      cases e : keyD dk with
      | none => rw [e] at h; cases h
      | some k =>
        rw [e] at h
        cases h
        rw [keyD_rv r2 e]
        have hz : vs.length < sizeLine := by rw [← rk.len, sizeLine_eq]; omega
        exact ⟨_, DPut.k ha hz, ⟨_, upd_same, gp, rk.put r3⟩⟩
    · cases h
  · rename_i kvs ks
    obtain ⟨vs, ha, gp, rk⟩ := r1
    obtain ⟨b, us, rfl, hb, _, ru⟩ := r2.tup_inv s
    split at h
    · rename_i hl
      cases e : keysD ks with
      | none => rw [e] at h; cases h
      | some k =>
        rw [e] at h
        cases h
        rw [keysD_rv ru e] at hb
        have hz : vs.length < sizeLine := by rw [← rk.len, sizeLine_eq]; omega
        exact ⟨_, DPut.t ha hb hz, ⟨_, upd_same, gp, rk.put r3⟩⟩
    · cases h
  · cases h
/-! in -/
def rDIn (neg : Bool) : R2 := fun x y H Q => ∃ a o, y = .ref a ∧ DGet H a x o ∧ Q (.bl (if neg then !o.isSome else o.isSome)) H
def rSgn (neg : Bool) : R2 := fun x y H Q => ∃ (c : Nat) (z : Str), x = .str ⟨#[c]⟩ ∧ y = .str z ∧ Q (.bl (if neg then !decide (c ∈ z.cps.toList) else decide (c ∈ z.cps.toList))) H
def gInA (x y : D) : Option Bool := match y with
  | .dK _ => (gDGet y x).map Option.isSome
  | .dT _ => (gDGet y x).map Option.isSome
  | .str z => match x with
    | .str ⟨⟨[c]⟩⟩ => some (decide (c ∈ z.cps.toList))
    | _ => none
  | _ => match gInB x y with
    | some b => some b
    | none => match toPy x, toPy y with
      | some a, some (.list ds) => if SeqAt.shaped a && SeqAt.shaped (.list ds) then some (ds.any fun z => PyData.eqv z a) else none
      | _, _ => none
def gInV (x y : D) : Option D := (gInA x y).map D.bl
def gNotInV (x y : D) : Option D := (gInA x y).map fun b => D.bl (!b)
end
section
variable {X : Cx} {ct : Nat → Addr} {c : Cf} {W : WX} {K : PySem.W.Frag}
theorem op_dIn (hu : X.A.units + 1 < cLine) : OpR X (compareOp .In) (rDIn false) := by
  intro pins s σ H x y v u Q I rx ry h
  obtain ⟨a, o, rfl, g, q⟩ := h
  cases ry
  exact d_in hu I g rx fun s' I' => ⟨.bl o.isSome, H, I', rfl, q⟩
theorem op_dNotIn (hu : X.A.units + 1 < cLine) : OpR X (compareOp .NotIn) (rDIn true) := by
  intro pins s σ H x y v u Q I rx ry h
  obtain ⟨a, o, rfl, g, q⟩ := h
  cases ry
  exact d_notIn hu I g rx fun s' I' => ⟨.bl (!o.isSome), H, I', rfl, q⟩
def rInAll (K : PySem.W.Frag) : R2 := fun x y H Q => ((rIn K false x y H Q ∨ rDIn false x y H Q) ∨ rSgn false x y H Q) ∨ rInD K x y H Q
def rNotInAll (K : PySem.W.Frag) : R2 := fun x y H Q => ((rIn K true x y H Q ∨ rDIn true x y H Q) ∨ rSgn true x y H Q) ∨ rNotInD K x y H Q
theorem op_inAll (hu : X.A.units + 65 < cLine) : OpR X (compareOp .In) (rInAll X.K) := OpR.or (OpR.or (OpR.or op_in_seq (op_dIn (by omega))) op_in_sign) (op_inD hu)
theorem op_notInAll (hu : X.A.units + 65 < cLine) : OpR X (compareOp .NotIn) (rNotInAll X.K) := OpR.or (OpR.or (OpR.or op_notIn_seq (op_dNotIn (by omega))) op_notIn_sign) (op_notInD hu)
theorem gInA_some {G H : Hp} (s : Same G H) {dx dy : D} {x y : V} {b : Bool} (r1 : RD K ct G H dx x) (r2 : RD K ct G H dy y) (h : gInA dx dy = some b) :
    ((∃ p xs, y = .ref p ∧ (SqL K H p xs ∨ SqT K H p xs) ∧ flatV x = true ∧ xs.all flatV = true ∧ b = inV x xs) ∨ (∃ a o, y = .ref a ∧ DGet H a x o ∧ b = o.isSome)) ∨ (∃ (c : Nat) (z : Str), x = .str ⟨#[c]⟩ ∧ y = .str z ∧ b = decide (c ∈ z.cps.toList)) ∨
      (∃ d ds, Dp K H x d ∧ Dp K H y (.list ds) ∧ SeqAt.shaped d = true ∧ SeqAt.shaped (.list ds) = true ∧ b = ds.any fun z => PyData.eqv z d) := by
  have dict : ∀ {r : Option (Option D)}, gDGet dy dx = r → r.map Option.isSome = some b → (∃ a o, y = .ref a ∧ DGet H a x o ∧ b = o.isSome) := fun {r} e e2 => by
    cases r with
    | none => cases e2
    | some o =>
      cases e2
      obtain ⟨a, o', ea, _, g, q⟩ := dget_ok s r2 r1 e
      exact ⟨a, o', ea, g, q.isSome⟩
  have rest : ∀ (e : (match gInB dx dy with
    | some b => some b
    | none => match toPy dx, toPy dy with
      | some a, some (.list ds) => if SeqAt.shaped a && SeqAt.shaped (.list ds) then some (ds.any fun z => PyData.eqv z a) else none
      | _, _ => none) = some b), ((∃ p xs, y = .ref p ∧ (SqL K H p xs ∨ SqT K H p xs) ∧ flatV x = true ∧ xs.all flatV = true ∧ b = inV x xs) ∨ (∃ a o, y = .ref a ∧ DGet H a x o ∧ b = o.isSome)) ∨ (∃ (c : Nat) (z : Str), x = .str ⟨#[c]⟩ ∧ y = .str z ∧ b = decide (c ∈ z.cps.toList)) ∨
      (∃ d ds, Dp K H x d ∧ Dp K H y (.list ds) ∧ SeqAt.shaped d = true ∧ SeqAt.shaped (.list ds) = true ∧ b = ds.any fun z => PyData.eqv z d) := fun e => by
    cases z : gInB dx dy with
    | some b' =>
      rw [z] at e
      cases e
      exact .inl (.inl (gInB_some s r1 r2 z))
    | none =>
      rw [z] at e
      dsimp only at e
      split at e
      · rename_i a ds e1 e2
        split at e
        · rename_i sh
          cases e
          rw [Bool.and_eq_true] at sh
          exact .inr (.inr ⟨a, ds, rd_dp s r1 e1, rd_dp s r2 e2, sh.1, sh.2, rfl⟩)
        · cases e
      · cases e
  unfold gInA at h
  cases dy with
  | dK kvs => exact .inl (.inr (dict rfl h))
  | dT kvs => exact .inl (.inr (dict rfl h))
  | str z =>
    dsimp only at h
    split at h
    · cases h
      exact .inr (.inl ⟨_, z, r1.str_inv, r2.str_inv, rfl⟩)
    · cases h
  | non => exact rest h
  | bl _ => exact rest h
  | int _ => exact rest h
  | tup _ => exact rest h
  | lst _ => exact rest h
  | fls _ => exact rest h
  | obj _ _ => exact rest h
  | fz _ => exact rest h
  | opq _ => exact rest h
  | exc _ _ _ => exact rest h
theorem os_inAll : OpS K ct false (rInAll K) gInV := fun G H dx dy x y d Q s r1 r2 e o => by
  unfold gInV at e
  cases z : gInA dx dy with
  | none => rw [z] at e; cases e
  | some b =>
    rw [z] at e
    cases e
    rcases gInA_some s r1 r2 z with (⟨p, xs, h1, h2, h3, h4, h5⟩ | ⟨a, o', h1, h2, h3⟩) | ⟨c, w, h1, h2, h3⟩ | ⟨d, ds, h1, h2, h3, h4, h5⟩
    · refine .inl (.inl (.inl ⟨p, xs, h1, h2, h3, h4, ?_⟩))
      rw [← h5]
      exact o.val s (.bl b)
    · refine .inl (.inl (.inr ⟨a, o', h1, h2, ?_⟩))
      rw [← h3]
      exact o.val s (.bl b)
    · refine .inl (.inr ⟨c, w, h1, h2, ?_⟩)
      rw [← h3]
      exact o.val s (.bl b)
    · refine .inr ⟨d, ds, h1, h2, h3, h4, ?_⟩
      rw [← h5]
      exact o.val s (.bl b)
theorem os_notInAll : OpS K ct false (rNotInAll K) gNotInV := fun G H dx dy x y d Q s r1 r2 e o => by
  unfold gNotInV at e
  cases z : gInA dx dy with
  | none => rw [z] at e; cases e
  | some b =>
    rw [z] at e
    cases e
    rcases gInA_some s r1 r2 z with (⟨p, xs, h1, h2, h3, h4, h5⟩ | ⟨a, o', h1, h2, h3⟩) | ⟨c, w, h1, h2, h3⟩ | ⟨d, ds, h1, h2, h3, h4, h5⟩
    · refine .inl (.inl (.inl ⟨p, xs, h1, h2, h3, h4, ?_⟩))
      rw [← h5]
      exact o.val s (.bl _)
    · refine .inl (.inl (.inr ⟨a, o', h1, h2, ?_⟩))
      rw [← h3]
      exact o.val s (.bl _)
    · refine .inl (.inr ⟨c, w, h1, h2, ?_⟩)
      rw [← h3]
      exact o.val s (.bl _)
    · refine .inr ⟨d, ds, h1, h2, h3, h4, ?_⟩
      rw [← h5]
      exact o.val s (.bl _)
variable {a b : Expr} {da db : DE} {pos : Pos}
theorem je_inA (hu : X.A.units + 65 < cLine) (ha : JE X ct c W false a da) (hb : JE X ct c W false b db) (hm : behindInMarks .In b = false := by rfl) : JE X ct c W false (.Compare a [.In] [b] pos) (dOp gInV da db) := je_cmp (op_inAll hu) os_inAll hm ha hb
theorem je_notinA (hu : X.A.units + 65 < cLine) (ha : JE X ct c W false a da) (hb : JE X ct c W false b db) (hm : behindInMarks .NotIn b = false := by rfl) : JE X ct c W false (.Compare a [.NotIn] [b] pos) (dOp gNotInV da db) := je_cmp (op_notInAll hu) os_notInAll hm ha hb
theorem jt_inA (hu : X.A.units + 65 < cLine) (ha : JE X ct c W false a da) (hb : JE X ct c W false b db) (hm : behindInMarks .In b = false := by rfl) : JT X ct c W (.Compare a [.In] [b] pos) (dTest (dOp gInV da db)) := jt_cmp (op_inAll hu) os_inAll hm ha hb
theorem jt_notinA (hu : X.A.units + 65 < cLine) (ha : JE X ct c W false a da) (hb : JE X ct c W false b db) (hm : behindInMarks .NotIn b = false := by rfl) : JT X ct c W (.Compare a [.NotIn] [b] pos) (dTest (dOp gNotInV da db)) := jt_cmp (op_notInAll hu) os_notInAll hm ha hb
theorem units65 {k : Nat} {A : Around} (r : Room k A) : A.units + 65 < cLine := by have := r.un; omega
/-! displays {} -/
theorem je_dnewK : JE X ct c W true (.Dict [] [] pos) (dC (.dK [])) := ⟨_, pe_dnewK, fun G H env σ Q r p => fun q hq => (Out.post r .refl p).newD r.sub hq .nil⟩
theorem Out.newDT {G H : Hp} {xs : List (List Key × D)} {vs : List (List Key × V)} {p : Addr} {Q : VK} (o : Out K ct true G H (.dT xs) Q) (s : Same G H) (hp : H p = none) (r : RTs K ct G xs vs) : Q (.ref p) (upd H p (.dT vs)) := by
  have gp : G p = none := s.free hp
  exact o G _ _ (.out s hp) ⟨⟨vs, upd_same, gp, r⟩, fun q e => by cases e; exact hp⟩
theorem je_dnewT : JE X ct c W true (.Dict [] [] pos) (dC (.dT [])) := ⟨_, pe_dnewT, fun G H env σ Q r p => fun q hq => (Out.post r .refl p).newDT r.sub hq .nil⟩
/-! d[k] = v -/
def sDSet (i : Nat) (v ix : DE) : DS := fun env => match v env with
  | .ok (.val d) e1 => match look e1 i with
    | some _ => match ix e1 with
      | .ok rk e2 => match rd e2 rk with
        | some k => match look e2 i with
          | some dd => match gDPut dd k d with
            | some d' => .nx (e2.set i (some d'))
            | none => .no
          | none => .no
        | none => .no
      | .ex q e2 => .ex q e2
      | .no => .no
    | none => .no
  | .ok _ _ => .no
  | .ex q e1 => .ex q e1
  | .no => .no
theorem js_dset {i : Nat} {x : Str} {ix e : Expr} {dv di : DE} {pos p1 p2 : Pos} (hu : X.A.units + 1 < cLine) (hi : decide (i ∈ c.own) = true) (he : JE X ct c W false e dv) (hx : JE X ct c W false ix di)
    (hN : X.N[i]? = some x := by rfl) (hv : Vis X.env.scope x := by first | exact Or.inl rfl | exact Or.inr (Or.inl rfl) | exact Or.inr (Or.inr rfl)) (hd : (x == ("__debug__" : Str)) = false := by decide) (hcd : (x == ("__classdict__" : Str)) = false := by decide)
    (hs : swapsWith e (some (.Subscript (.Name x p1) ix p2)) pos.line X.env = pure false := by rfl) :
    JS X ct c W (.Assign [.Subscript (.Name x p1) ix p2] e pos) (sDSet i dv di) := by
  obtain ⟨te, pe, se⟩ := he
  obtain ⟨tx, px, sx⟩ := hx
  have hi := of_decide_eq_true hi
  refine ⟨_, ps_dput hu (pe_var hN hv hd hcd) px pe hs, fun G H env σ E r p => ?_⟩
  refine se G H env σ _ r ?_
  unfold sDSet at p
  cases ea : dv env with
  | no => rw [ea] at p; exact p
  | ex q e1 => rw [ea] at p; exact fun G1 H1 cls dd s R h => p G1 H1 σ cls dd s.g R h
  | ok rv e1 =>
    rw [ea] at p
    cases rv with
    | slot j => exact p.elim
    | val d =>
      intro G1 H1 v s1 R1 X1 _
      dsimp only at p
      cases el : look e1 i with
      | none => rw [el] at p; exact p.elim
      | some d0 =>
        rw [el] at p
        dsimp only at p
        obtain ⟨ov, hσ, _, q0⟩ := R1.slot i d0 (of_look el)
        refine ⟨ov, hσ, sx G1 H1 e1 σ _ R1 ?_⟩
        cases eb : di e1 with
        | no => rw [eb] at p; exact p
        | ex q e2 => rw [eb] at p; exact fun G2 H2 cls dd s R h => p G2 H2 σ cls dd (s1.g.trans s.g) R h
        | ok rk e2 =>
          rw [eb] at p
          intro G2 H2 vk s2 R2 X2 _
          dsimp only at p
          cases z : rd e2 rk with
          | none => rw [z] at p; exact p.elim
          | some dk =>
            rw [z] at p
            dsimp only at p
            cases el2 : look e2 i with
            | none => rw [el2] at p; exact p.elim
            | some dd =>
              rw [el2] at p
              dsimp only at p
              obtain ⟨ov', hσ', _, q1⟩ := R2.slot i dd (of_look el2)
              rw [hσ] at hσ'
              cases hσ'
              cases zp : gDPut dd dk d with
              | none => rw [zp] at p; exact p.elim
              | some d' =>
                rw [zp] at p
                obtain ⟨q2, _⟩ := (q1 hi).live (fun d2 z => by rw [z] at zp; unfold gDPut at zp; cases zp)
                obtain ⟨pa, _, rfl, _, gq2⟩ := q2.top
                obtain ⟨o, h1, h2⟩ := dput_ok R2.sub q2 (X2.rd R2 z) (RV.mono s2.g X1) zp
                obtain ⟨t1, t2⟩ := rel_mut R2 hi hσ gq2 h2
                exact ⟨pa, _, rfl, h1, p G2 _ σ ((s1.g.trans s2.g).trans t1.g) t2⟩
/-! d[k] -/
def gDIx (x y : D) : Option D := match gDGet x y with
  | some (some d) => some d
  | _ => none
theorem je_dix (hu : X.A.units + 1 < cLine) (ha : JE X ct c W false a da) (hb : JE X ct c W false b db) (hs : NoSl b := by intro _ _; rfl) : JE X ct c W false (.Subscript a b pos) (dOp gDIx da db) := by
  obtain ⟨ta, pa, sa⟩ := ha
  obtain ⟨tb, pb, sb⟩ := hb
  refine ⟨_, pe_dget hu pa pb hs, sim_op (r := fun x y H Q => ∃ a v, x = .ref a ∧ DGet H a y (some v) ∧ Q v H) (fun G H dx dy x y d Q s r1 r2 e o => ?_) sa sb⟩
  unfold gDIx at e
  split at e
  · rename_i d' e1
    cases e
    obtain ⟨a, o', ea, _, g, q⟩ := dget_ok s r1 r2 e1
    obtain ⟨v, rfl, rv⟩ := q.some_of
    exact ⟨a, v, ea, g, o.val s rv⟩
  · cases e
end
end Dn

namespace Dn
open PySem PySem.Spec PyProof.Rows L2
/-! len(set(t)) -/
def dedI : List Int → List Int
  | [] => []
  | x :: xs => if xs.contains x then dedI xs else x :: dedI xs
theorem mem_dedI (k : Int) : ∀ {xs : List Int}, k ∈ dedI xs ↔ k ∈ xs
  | [] => Iff.rfl
  | x :: xs => by
    unfold dedI
    split
    · rename_i h
      rw [mem_dedI k, List.mem_cons]
      exact ⟨.inr, fun z => z.elim (fun e => by rw [e]; exact List.contains_iff_mem.mp h) id⟩
    · rw [List.mem_cons, List.mem_cons, mem_dedI k]
theorem nodup_dedI : ∀ xs : List Int, (dedI xs).Nodup
  | [] => List.nodup_nil
  | x :: xs => by
    unfold dedI
    split
    · exact nodup_dedI xs
    · rename_i h
      refine List.nodup_cons.mpr ⟨fun z => h (List.contains_iff_mem.mpr ((mem_dedI x).mp z)), nodup_dedI xs⟩
def tLenS (K : PySem.W.Frag) (ta : TE) : TE := fun σ H Q => ta σ H fun x H1 => ∃ (l : Addr) (ns : List Int), x = .ref l ∧ SqT K H1 l (ns.map V.int) ∧ ns.length ≤ 4000 ∧ Q (.int ((dedI ns).length : Nat)) H1
section
variable {X : Cx} {ct : Nat → Addr} {c : Cf} {W : WX} {K : PySem.W.Frag}
theorem pe_lenS {a : Expr} {ta : TE} {p p2 q pos : Pos} (hg : Gl X "len") (hm : X.mg "len" = none) (hg2 : Gl X "set") (hm2 : X.mg "set" = none) (ha : PE X a ta) (hc : X.calm = true)
    (na : starEach [a] X.env = (false, eval a X.env) :: starEach [] X.env) : PE X (.Call (.Name "len" p) [.Call (.Name "set" p2) [a] [] q] [] pos) (tLenS X.K ta) := by
  refine ⟨fun pins s σ H Q I h => ?_⟩
  refine Call_ (ld_blt I hg hm boot_len (PyProof.Rows.callWith_builtin1 (PyProof.Rows.args_cons ?_ rfl) rfl rfl))
  refine Call_ (ld_blt I hg2 hm2 boot_set ?_)
  refine PyProof.Rows.callWith_type1 (PyProof.Rows.args_cons (thn (ha.run pins s σ H _ I h) fun v s1 ⟨x, H1, I1, r1, q1⟩ => PyProof.Rows.args_nil ?_) na) na rfl
  obtain ⟨l, ns, rfl, hq, hl, q1⟩ := q1
  cases r1
  obtain ⟨its, rv, pt, hz⟩ := I1.tuple hq
  refine call_set_tupI ns (I1.ok.hd hc) (show s1.heap.IsTuple l its.toArray from pt) (ints_of_vals rv) (by unfold scanBound; omega) fun h' tk c R1 hcn k => PyProof.Rows.args_nil ?_
  obtain ⟨o, es, ep, t, ho, hex, hdt, g, nd, hm2, hb, hf, hn, hr, hl2⟩ := R1
  have e : (dedI ns).length = es.size := by
    have pm : (dedI ns).Perm (es.toList.map keyOf) := (List.perm_ext_iff_of_nodup (nodup_dedI ns) nd).mpr fun j => by rw [mem_dedI, ← hm2 j]; simp
    rw [pm.length_eq]; simp
  have I2 : Inv X pins σ H1 { s1 with heap := h', toks := tk } := I1.kept fun b o e => k b o e
  exact call_len_set ho hex hdt hf (by unfold scanBound at hb; omega) ⟨.int ((dedI ns).length : Nat), H1, I2.tok _, ⟨_, by rw [e]⟩, q1⟩
def gLenS : D → Option D
  | .tup xs => match unInts xs with
    | some ns => if ns.length ≤ 4000 then some (.int ((dedI ns).length : Nat)) else none
    | none => none
  | _ => none
theorem je_lenS {a : Expr} {d : DE} {p p2 q pos : Pos} (hm : X.mg "len" = none) (hm2 : X.mg "set" = none) (ha : JE X ct c W false a d) (hc : X.calm = true := by rfl) (hg : Gl X "len" := by rfl) (hg2 : Gl X "set" := by rfl)
    (na : starEach [a] X.env = (false, eval a X.env) :: starEach [] X.env := by rfl) : JE X ct c W false (.Call (.Name "len" p) [.Call (.Name "set" p2) [a] [] q] [] pos) (dUn gLenS d) := by
  obtain ⟨ta, pa, sa⟩ := ha
  refine ⟨_, pe_lenS hg hm hg2 hm2 pa hc na, sim_un (r := fun x H1 Q => ∃ (l : Addr) (ns : List Int), x = .ref l ∧ SqT X.K H1 l (ns.map V.int) ∧ ns.length ≤ 4000 ∧ Q (.int ((dedI ns).length : Nat)) H1) (fun G H dx x d Q s r e o => ?_) sa⟩
  unfold gLenS at e
  split at e
  · rename_i xs
    obtain ⟨l, vs, rfl, hH, hG, rv⟩ := r.tup_inv s
    split at e
    · rename_i ns en
      split at e
      · cases e
        rw [unInts_eq en] at rv
        rw [rv.ints] at hH
        exact ⟨l, ns, rfl, .inl (.inl hH), by assumption, o.val s (.int _)⟩
      · cases e
    · cases e
  · cases e
/-! d.get(k, x) -/
def dGet2 (a k x : DE) : DE := fun env => match a env with
  | .ok ra e1 => match rd e1 ra with
    | some da => match gIsD da with
      | true => match k e1 with
        | .ok rk e2 => match x e2 with
          | .ok (.val dx) e3 => match rd e3 ra, rd e3 rk with
            | some d, some dk => match gDGet d dk with
              | some (some v) => .ok (.val v) e3
              | some none => .ok (.val dx) e3
              | none => .no
            | _, _ => .no
          | .ok _ _ => .no
          | .ex q e3 => .ex q e3
          | .no => .no
        | .ex q e2 => .ex q e2
        | .no => .no
      | false => .no
    | none => .no
  | .ex q e1 => .ex q e1
  | .no => .no
where gIsD : D → Bool
  | .dK _ => true
  | .dT _ => true
  | _ => false
theorem isD_of {G H : Hp} {d : D} {x : V} (s : Same G H) (r : RD K ct G H d x) (h : dGet2.gIsD d = true) : ∃ a, x = .ref a ∧ IsD H a := by
  unfold dGet2.gIsD at h
  split at h
  · obtain ⟨a, vs, rfl, ha, _⟩ := r.dK_inv s; exact ⟨a, rfl, .inl ⟨vs, .inl ha⟩⟩
  · obtain ⟨a, vs, rfl, ha, _⟩ := r.dT_inv s; exact ⟨a, rfl, .inr ⟨vs, .inl ha⟩⟩
  · cases h
theorem je_get2 {o e f : Expr} {a k x : DE} {apos cpos : Pos} (hu : X.A.units + 1 < cLine) (ho : JE X ct c W false o a) (he : JE X ct c W false e k) (hf : JE X ct c W false f x) (m : M2 X o "get" apos e f cpos := by exact ⟨rfl, rfl, rfl, rfl⟩) :
    JE X ct c W false (.Call (.Attribute o "get" apos) [e, f] [] cpos) (dGet2 a k x) := by
  obtain ⟨ta, pa, sa⟩ := ho
  obtain ⟨tk, pk, sk⟩ := he
  obtain ⟨tx, px, sx⟩ := hf
  refine ⟨_, pe_dget2 hu pa pk px m, fun G H env σ Q r p => ?_⟩
  refine sa G H env σ _ r ?_
  unfold dGet2 at p
  cases ea : a env with
  | no => rw [ea] at p; exact p
  | ex q e1 => rw [ea] at p; exact p
  | ok ra e1 =>
    rw [ea] at p
    intro G1 H1 v1 s1 R1 X1 _
    dsimp only at p
    cases z1 : rd e1 ra with
    | none => rw [z1] at p; exact p.elim
    | some da =>
      rw [z1] at p
      dsimp only at p
      cases z2 : dGet2.gIsD da with
      | false => rw [z2] at p; exact p.elim
      | true =>
        rw [z2] at p
        dsimp only at p
        obtain ⟨aa, rfl, hd⟩ := isD_of R1.sub (X1.rd R1 z1) z2
        refine ⟨aa, rfl, hd, sk G1 H1 e1 σ _ R1 ?_⟩
        cases ek : k e1 with
        | no => rw [ek] at p; exact p
        | ex q e2 => rw [ek] at p; exact fun G' H' cls dd s R h => p G' H' cls dd (s1.trans s) R h
        | ok rk e2 =>
          rw [ek] at p
          intro G2 H2 v2 s2 R2 X2 _
          dsimp only at p
          refine sx G2 H2 e2 σ _ R2 ?_
          cases ex : x e2 with
          | no => rw [ex] at p; exact p
          | ex q e3 => rw [ex] at p; exact fun G' H' cls dd s R h => p G' H' cls dd ((s1.trans s2).trans s) R h
          | ok rx e3 =>
            rw [ex] at p
            intro G3 H3 v3 s3 R3 X3 _
            cases rx with
            | slot j => exact p.elim
            | val dx =>
              dsimp only at p
              have Y1 : RX X.K ct c G3 H3 σ false ra (.ref aa) := X1.mono (s2.g.trans s3.g)
              have Y2 : RX X.K ct c G3 H3 σ false rk v2 := X2.mono s3.g
              cases z3 : rd e3 ra with
              | none => rw [z3] at p; exact p.elim
              | some d3 =>
                cases z4 : rd e3 rk with
                | none => rw [z3, z4] at p; exact p.elim
                | some d4 =>
                  rw [z3, z4] at p
                  dsimp only at p
                  cases z5 : gDGet d3 d4 with
                  | none => rw [z5] at p; exact p.elim
                  | some o5 =>
                    rw [z5] at p
                    obtain ⟨a', o', e', _, g, oo⟩ := dget_ok R3.sub (Y1.rd R3 z3) (Y2.rd R3 z4) z5
                    cases e'
                    refine ⟨o', g, ?_⟩
                    cases o5 with
                    | none =>
                      rw [oo.none_of]
                      exact p G3 H3 v3 ((s1.trans s2).trans s3) R3 X3 (fun z => nomatch z)
                    | some d5 =>
                      obtain ⟨w, rfl, rw'⟩ := oo.some_of
                      exact p G3 H3 w ((s1.trans s2).trans s3) R3 rw' (fun z => nomatch z)
end
end Dn

namespace Dn
open PySem PySem.Spec PyProof.Rows L2
section
variable {X : Cx} {ct : Nat → Addr} {c : Cf} {W : WX} {K : PySem.W.Frag}
/-! an own object is known for good from here on -/
def sFrz (i : Nat) : DS := fun env => match look env i with
  | some (.lst xs) => .nx (env.set i (some (.fz (.lst xs))))
  | some (.dK xs) => .nx (env.set i (some (.fz (.dK xs))))
  | some (.dT xs) => .nx (env.set i (some (.fz (.dT xs))))
  | some (.obj k xs) => .nx (env.set i (some (.fz (.obj k xs))))
  | _ => .nx env
theorem sim_frz {i : Nat} {t : TS} {b : DS} (hi : i ∈ c.own) (h0 : i ≠ 0) (hb : SimS K ct c W t b) : SimS K ct c W t (sSeq (sFrz i) b) := fun G H env σ E r p => by
  unfold sSeq at p
  have go : ∀ d, look env i = some d → (∀ d', d ≠ .fz d') → PostS K ct c W G E (b (env.set i (some (.fz d)))) → t E σ H := fun d z nf p => by
    obtain ⟨v, hv, _, q⟩ := r.slot i d (of_look z)
    obtain ⟨q1, q2⟩ := (q hi).live nf
    obtain ⟨a, o, rfl, ho, hg⟩ := q1.top
    have R := r.frz hi (.inr h0) (of_look z) hv q1 (q2 a rfl) ho
    have sm : Same G (upd G a o) := fun b x e => by rw [upd_ne (ne_of_none e hg)]; exact e
    exact hb _ H _ σ E R (p.mono sm)
  unfold sFrz at p
  split at p
  · rename_i e1 e2
    split at e2
    · rename_i z; cases e2; exact go _ z (fun _ z => nomatch z) p
    · rename_i z; cases e2; exact go _ z (fun _ z => nomatch z) p
    · rename_i z; cases e2; exact go _ z (fun _ z => nomatch z) p
    · rename_i z; cases e2; exact go _ z (fun _ z => nomatch z) p
    · cases e2; exact hb G H env σ E r p
  · rename_i e1
    split at e1 <;> exact absurd rfl (e1 _)
theorem jss_frz (i : Nat) {ss : List Stmt} {b : DS} (hi : decide (i ∈ c.own) = true) (hb : JSs X ct c W ss b) (h0 : i ≠ 0 := by decide) : JSs X ct c W ss (sSeq (sFrz i) b) := let ⟨t, p, s⟩ := hb; ⟨t, p, sim_frz (of_decide_eq_true hi) h0 s⟩
theorem js_frz (i : Nat) {ss : Stmt} {b : DS} (hi : decide (i ∈ c.own) = true) (hb : JS X ct c W ss b) (h0 : i ≠ 0 := by decide) : JS X ct c W ss (sSeq (sFrz i) b) := let ⟨t, p, s⟩ := hb; ⟨t, p, sim_frz (of_decide_eq_true hi) h0 s⟩
/-- an own slot gets something known for good -/
def sSetF (i : Nat) (a : DE) : DS := fun env => match a env with
  | .ok (.val (.fls _)) _ => .no
  | .ok (.val (.opq _)) _ => .no
  | .ok (.val (.exc _ _ _)) _ => .no
  | .ok (.val d) e1 => .nx (e1.set i (some (.fz d)))
  | .ok _ _ => .no
  | .ex q e1 => .ex q e1
  | .no => .no
theorem js_setF {i : Nat} {x : Str} {e : Expr} {d : DE} {pos pos' : Pos} (hi : decide (i ∈ c.own) = true) (hN : X.N.Nodup) (he : JE X ct c W false e d) (h0 : i ≠ 0 := by decide) (hpn : c.pins.all (fun q => q.1 != i) = true := by rfl) (hx : X.N[i]? = some x := by rfl) (hl : Loc X.env.scope x := by first | exact Or.inl rfl | exact Or.inr rfl) (hs : swapsWith e (some (.Name x pos')) pos.line X.env = pure false := by rfl) (hf : X.fn x = true ∨ X.env.scope.names.lookup x = some .local := by first | exact .inl rfl | exact .inr rfl) :
    JS X ct c W (.Assign [.Name x pos'] e pos) (sSetF i d) := by
  obtain ⟨t, p1, s1⟩ := he
  refine ⟨_, ps_set hN hx hl p1 hs hf, fun G H env σ E r p => ?_⟩
  refine s1 G H env σ _ r ?_
  unfold sSetF at p
  cases ea : d env with
  | no => rw [ea] at p; exact p
  | ex q e1 => rw [ea] at p; exact fun G1 H1 cls dd s R h => p G1 H1 σ cls dd s.g R h
  | ok rv e1 =>
    rw [ea] at p
    intro G1 H1 v s R h _
    cases rv with
    | slot j => exact p.elim
    | val dv =>
      have h' : RV X.K ct G1 dv v := h
      have fin : (∀ p, v = .ref p → ∃ o, G1 p = some o) → PostS X.K ct c W G E (.nx (e1.set i (some (.fz dv)))) → E.nx (σ.set i (some v)) H1 := fun hn p => p G1 H1 _ s.g (R.setF (of_decide_eq_true hi) (.inr h0) hpn h' hn)
      cases h' with
      | non => exact fin (fun _ z => nomatch z) p
      | bl _ => exact fin (fun _ z => nomatch z) p
      | int _ => exact fin (fun _ z => nomatch z) p
      | str _ => exact fin (fun _ z => nomatch z) p
      | tup hh _ => exact fin (fun _ z => by cases z; exact ⟨_, hh⟩) p
      | lst hh _ => exact fin (fun _ z => by cases z; exact ⟨_, hh⟩) p
      | fls hh _ => exact p.elim
      | opq _ => exact p.elim
      | exc0 _ => exact p.elim
      | exc1 _ _ _ => exact p.elim
      | dK hh _ => exact fin (fun _ z => by cases z; exact ⟨_, hh⟩) p
      | dT hh _ => exact fin (fun _ z => by cases z; exact ⟨_, hh⟩) p
      | obj hh _ => exact fin (fun _ z => by cases z; exact ⟨_, hh⟩) p
      | ldK _ hh _ => exact fin (fun _ z => by cases z; exact ⟨_, hh⟩) p
/-! what is walked: a list, a tuple, a text -/
def iStrD (a : DE) : DI := fun env => match a env with
  | .ok (.val (.str z)) e => .ok (z.cps.toList.map fun k => .str ⟨#[k]⟩) e
  | .ok _ _ => .no
  | .ex q e => .ex q e
  | .no => .no
theorem its_ok {G : Hp} (z : Str) : ItR K ct (Its z) (z.cps.toList.map fun k => .str ⟨#[k]⟩) G where
  go := fun i G' H s1 s2 hi => by show i < z.cps.size; simpa using hi
  stop := fun G' H s1 s2 => by show _ ≤ _; simp
  yld := fun i G' H x H' s1 s2 hi ⟨e, k, hk, hv⟩ => by
    subst e hv
    refine ⟨.str ⟨#[k]⟩, G', ?_, .refl s2, .str _⟩
    rw [List.getElem?_map, Array.getElem?_toList, hk]
    rfl
theorem ji_str {tg l : Expr} {a : DE} (hl : JE X ct c W false l a) : JI X ct c W tg l (iStrD a) := by
  obtain ⟨t, p1, s1⟩ := hl
  refine ⟨_, pi_str p1, fun G H env σ Rk r p => ?_⟩
  refine s1 G H env σ _ r ?_
  unfold iStrD at p
  cases ea : a env with
  | no => rw [ea] at p; exact p
  | ex q e => rw [ea] at p; exact p
  | ok rv e1 =>
    rw [ea] at p
    intro G1 H1 v s R h _
    cases rv with
    | slot i => exact p.elim
    | val d =>
      cases h with
      | str z => exact ⟨z, rfl, p G1 H1 _ s R (its_ok z)⟩
      | _ => exact p.elim
def iAny (a : DE) : DI := fun env => match a env with
  | .ok (.val (.lst xs)) e => .ok xs e
  | .ok (.val (.fls xs)) e => .ok xs e
  | .ok (.val (.tup xs)) e => .ok xs e
  | .ok (.val (.str z)) e => .ok (z.cps.toList.map fun k => .str ⟨#[k]⟩) e
  | .ok _ _ => .no
  | .ex q e => .ex q e
  | .no => .no
theorem ji_any {tg l : Expr} {a : DE} (hl : JE X ct c W false l a) : JI X ct c W tg l (iAny a) := by
  obtain ⟨t1, p1, s1⟩ := ji_list (tg := tg) hl
  obtain ⟨t2, p2, s2⟩ := ji_tup (tg := tg) hl
  obtain ⟨t3, p3, s3⟩ := ji_str (tg := tg) hl
  refine ⟨fun σ H R => t1 σ H R ∨ t2 σ H R ∨ t3 σ H R, ⟨fun pins s σ H R I h => h.elim (p1.run pins s σ H R I) (fun h => h.elim (p2.run pins s σ H R I) (p3.run pins s σ H R I))⟩, fun G H env σ Rk r p => ?_⟩
  unfold iAny at p
  split at p
  · rename_i e; exact .inl (s1 G H env σ Rk r (by unfold iSeq; rw [e]; exact p))
  · rename_i e; exact .inl (s1 G H env σ Rk r (by unfold iSeq; rw [e]; exact p))
  · rename_i e; exact .inr (.inl (s2 G H env σ Rk r (by unfold iTupl; rw [e]; exact p)))
  · rename_i e; exact .inr (.inr (s3 G H env σ Rk r (by unfold iStrD; rw [e]; exact p)))
  · exact p.elim
  · rename_i e; exact .inl (s1 G H env σ Rk r (by unfold iSeq; rw [e]; exact p))
  · exact p.elim
end
end Dn

namespace Dn
open PySem PySem.Spec PyProof.Rows L2
/-! sets of ints, at the machine's level -/
section
variable {P : Program} {w : World} {A : Around} {E : Value → Shared → Prop} {s : Shared}
/-- an empty set as it is made -/
abbrev emS (w : World) : Obj := { cls := .type "set", dict := none, data := .set #[] 0 (.fresh 0 0 (!w.params.followText "set-order")) }
theorem setR_few {h : Heap} {a : Addr} {ns : List Int} {i c : Nat} (R : SetR w h a (fun j => decide (j ∈ ns.take i)) c) : c ≤ (dedI ns).length := by
  obtain ⟨_, es, _, _, _, _, _, _, nd, hm, _, _, hn, _⟩ := R
  have := nd.length_le_of_subset (l₂ := dedI ns) fun k hk => (mem_dedI k).mpr (List.mem_of_mem_take (of_decide_eq_true ((hm k).mpr hk)))
  rw [List.length_map, Array.length_toList] at this
  omega
/-- the loop that puts ints into a set: what counts is how many unlike ones there are -/
theorem upd_few {I : Addr} {fp wr : List Addr} {G : Array GenState → Array GenState → Prop} {n : Nat} {Pv : Nat → Value → Prop} {St : Nat → Shared → Prop} {R : Result → Shared → Prop} (W : WalksS P w A.in1 I fp wr G n Pv St)
    (S : Addr) (off : S ∉ fp) (ns : List Int) (len : n = ns.length) (few : (dedI ns).length ≤ 4000) (val : ∀ i v, Pv i v → ∃ k t, ns[i]? = some k ∧ v = .int k t) : ∀ (k i : Nat) (s : Shared), n - i = k → i ≤ n → St i s →
    (∃ c, SetR w s.heap S (fun j => decide (j ∈ ns.take i)) c) → (∀ s' c, Moved (S :: wr) G s s' → SetR w s'.heap S (fun j => decide (j ∈ ns)) c → R (.ok (.ret .none)) s') → codeAny (model P w) A (.builtin "set.update.loop" ⟨[.ref S, .ref I], []⟩) R s
  | 0, i, s, ek, hi, st, ⟨c, hS⟩, fin => by
    have offw : S ∉ wr := fun h => off (W.sub _ h)
    have up : ∀ b ∈ wr, b ∈ S :: wr := fun b hb => .tail _ hb
    refine codeAny_builtin F.entry_set_update_loop ?_; rw [Around.under_plainId F.plain_set_update_loop _]; show wpAny _ A.in1 (pyNext (.ref I) >>= _) _ _ s
    obtain rfl : i = n := by omega
    refine wpAny_bind (W.done s _ _ st fun s' hm => ?_); show wpAny _ A.in1 (ret Value.none) _ _ s'
    rw [show ns.take i = ns from List.take_of_length_le (by omega)] at hS
    exact wpAny_pure (fin s' c (hm.mono up) (hS.at fun o e => hm.heap S o offw e))
  | k + 1, i, s, ek, hi, st, ⟨c, hS⟩, fin => by
    have offw : S ∉ wr := fun h => off (W.sub _ h)
    have up : ∀ b ∈ wr, b ∈ S :: wr := fun b hb => .tail _ hb
    refine codeAny_builtin F.entry_set_update_loop ?_; rw [Around.under_plainId F.plain_set_update_loop _]; show wpAny _ A.in1 (pyNext (.ref I) >>= _) _ _ s
    refine wpAny_bind (W.item i s _ _ (by omega) st fun v s' hP st' hm => ?_)
    obtain ⟨z, t, hz, rfl⟩ := val i v hP
    have hS1 : SetR w s'.heap S (fun j => decide (j ∈ ns.take i)) c := hS.at fun o e => hm.heap S o offw e
    have room := setR_few hS1
    show wpAny _ A.in1 (holding [Value.int z t] (setAdd S (.int z t)) >>= _) _ _ s'; refine wpAny_bind (wpAny_holding ?_); unfold setAdd
    refine wpAny_holding (wpAny_bind ((intKind P w).pyHash (k := z) (intKind_is _ _ _ _) (setR_add_hashed (s := { s' with toks := s'.toks + 1 }) hS1 (by unfold scanBound; omega) fun h' same hS2 => ?_)))
    have hS3 := hS2.congr (S' := fun j => decide (j ∈ ns.take (i + 1))) fun j => by rw [List.take_add_one, hz]; simp [List.mem_append]
    refine wpAny_pure ⟨plainId_quiet F.plain_set_update_loop _, upd_few W S off ns len few val k (i + 1) _ (by omega) (by omega) (W.frame _ s' _ _ st' (Nat.le_succ _) fun b hb o e => ?_) ⟨_, hS3⟩ fun s2 c2 hm2 hS4 => fin s2 c2 (Moved.trans W.gtrans ((hm.mono up).then_heap (Nat.le_succ _) fun b o hb e => ?_) hm2) hS4⟩
    · rw [same.2 b fun h : b = S => off (by rw [← h]; exact hb)]; exact e
    · rw [same.2 b fun h : b = S => hb (by rw [h]; exact .head _)]; exact e
theorem set_of_list {l : Addr} {items : Array Value} (ns : List Int) {Q : Value → Shared → Prop} (hh : A.handled = none) (hl : s.heap.IsList l items) (hit : IntsAre items.toList ns) (few : (dedI ns).length ≤ 4000)
    (fin : ∀ (h' : Heap) (tk c : Nat), SetR w h' s.heap.objs.size (fun j => decide (j ∈ ns)) c → (∀ b o, s.heap.get? b = some o → h'.get? b = some o) → Q (.ref s.heap.objs.size) { s with heap := h', toks := tk }) : wpAny (model P w) A (call (.type "set") [.ref l]) Q E s := by
  have size : items.size = ns.length := (Array.length_toList (xs := items)).symm.trans (IntsAre.length hit)
  obtain ⟨c, tl, hmro⟩ := F.called_set.mro
  have m1 := F.called_set.made; have m2 := F.called_set.sub; have m3 := F.called_set.notType; have m4 := F.called_set.canCreate; have m5 := F.typeCall_set_1 (.ref l)
  refine wpAny_call (codeAny_of_tree (wpAny_pure ⟨Code.quiet_builtin _ (by decide +kernel), codeAny_builtin F.entry_type_call ?_⟩))
  rw [Around.under_plain (weight_type_call_type "set" [.ref l] []) rfl]; repeat (any_goals (first | assumption | wp_step))
  refine codeAny_mono (code_set_led1 (.ref l) (E := E) (Q₁ := fun obj s₁ => obj = .ref s.heap.objs.size ∧ s₁ = { s with heap := s.heap.push (emS w) }) ⟨rfl, rfl⟩) fun r s₁ hr => ?_
  cases r with
  | error e => exact hr
  | ok fl =>
    cases fl with
    | ret obj =>
      obtain ⟨rfl, rfl⟩ := hr
      have at0 : (s.heap.push (emS w)).get? s.heap.objs.size = some (emS w) := Heap.get?_push_size _ rfl
      have ty : Shared.TypeIs { s with heap := s.heap.push (emS w) } (.ref s.heap.objs.size) "set" := ⟨_, at0, rfl⟩
      have m6 := F.called_set.init.lookup; have m7 := F.called_set.init.bind (.ref s.heap.objs.size); repeat (any_goals (first | assumption | wp_step))
      refine codeAny_mono (codeAny_call_builtin (R := wants (fun r s₂ => r = .none ∧ ∃ h' tk c, s₂ = { s with heap := h', toks := tk } ∧ SetR w h' s.heap.objs.size (fun j => decide (j ∈ ns)) c ∧
          (∀ b o, s.heap.get? b = some o → h'.get? b = some o)) E) F.called_set.init.plain F.entry_set_init (check_set_init_1 ty ?_)) fun r₂ s₂ hr₂ => ?_
      · obtain ⟨⟨ocls, odict, odata, oslots⟩, hol, hcl, nl, hdl⟩ := hl; simp only at hcl hdl; subst hcl; subst hdl
        have at1 : (s.heap.push (emS w)).get? l = some { cls := .type "list", dict := odict, data := .seq items nl, slots := oslots } := Heap.get?_push_of_some _ hol
        have u1 := F.sub_list_set; have u2 := F.sub_list_frozenset; have u3 : (Value.type "list" == Value.type "dict") = false := by decide
        have isl : (s.heap.push (emS w)).IsList l items := ⟨_, at1, rfl, nl, rfl⟩
        unfold Builtin.«set.__init__» noKeywords Builtin.Frozenset.updateFrom; generalize hPI : pyIter = PI; wp_walk; subst hPI
        refine wpAny_pyIter_list isl (wpAny_bind (wpAny_runValue ?_))
        have lS : l < s.heap.objs.size := Heap.lt_size hol
        have hand : A.in1.in1.in1.handled = none := by simp [hh]
        have z1 : (s.heap.push (emS w)).objs.size = s.heap.objs.size + 1 := Heap.size_push ..
        have nI : l ≠ (s.heap.push (emS w)).objs.size := by rw [z1]; exact Nat.ne_of_lt (Nat.lt_succ_of_lt lS)
        have nS : s.heap.objs.size ∉ [(s.heap.push (emS w)).objs.size, l] := by rw [z1]; simp only [List.mem_cons, List.mem_singleton, List.not_mem_nil, or_false, not_or]; exact ⟨Nat.ne_of_lt (Nat.lt_succ_self _), Nat.ne_of_gt lS⟩
        have vals : ∀ (i : Nat) (v : Value), items[i]? = some v → ∃ k t, ns[i]? = some k ∧ v = .int k t := fun i v hv => by
          have hi : i < ns.length := by rw [← size]; exact (Array.getElem?_eq_some_iff.mp hv).1
          obtain ⟨t, e⟩ := PyProof.Rows.IntsAre.int_at hit i v (by rw [Array.getElem?_toList]; exact hv)
          exact ⟨ns[i], t, List.getElem?_eq_getElem hi, by rw [e, List.getD_eq_getElem?_getD, List.getElem?_eq_getElem hi] <;> rfl⟩
        refine upd_few ((Walks.list hand _ l nI items).toS) s.heap.objs.size nS ns size few vals (items.size - 0) 0 _ (by omega) (Nat.zero_le _) ⟨⟨_, Heap.get?_push_size _ rfl, rfl, rfl⟩, (isl.push _)⟩ ⟨0, setR_new_at (Heap.get?_push_of_some _ at0)⟩ ?_
        intro s' c' hm hS'
        obtain ⟨h', g2, d', tk', os'⟩ := s'
        have eg : g2 = s.gens := hm.gens; have ed : d' = s.drawn := hm.drawn; have eo : os' = s.os := hm.os; subst eg; subst ed; subst eo
        refine wpAny_pure (wpAny_pure ⟨rfl, h', tk', c', rfl, hS', fun b o e => ?_⟩)
        have b0 : b < s.heap.objs.size := Heap.lt_size e
        exact hm.heap b o (by rw [z1]; simp only [List.mem_cons, List.mem_singleton, List.not_mem_nil, or_false, not_or]; exact ⟨Nat.ne_of_lt b0, Nat.ne_of_lt (Nat.lt_succ_of_lt b0)⟩) (Heap.get?_push_of_some _ (Heap.get?_push_of_some _ e))
      · cases r₂ with
        | error e => exact hr₂
        | ok fl₂ =>
          cases fl₂ with
          | ret r =>
            obtain ⟨rfl, h', tk, c', rfl, hS', hk'⟩ := hr₂
            repeat (any_goals (first | assumption | wp_step))
            exact fin _ _ _ hS' hk'
          | _ => exact hr₂.elim
    | _ => exact hr.elim
theorem le_to_lt : ∀ {l : List Int}, l.Pairwise (· ≤ ·) → l.Nodup → l.Pairwise (· < ·)
  | [], _, _ => .nil
  | x :: l, h, d => by
    rw [List.pairwise_cons] at h
    rw [List.nodup_cons] at d
    exact List.pairwise_cons.mpr ⟨fun y hy => by have := h.1 y hy; have : x ≠ y := fun z => d.1 (z ▸ hy); omega, le_to_lt h.2 d.2⟩
/-- sorted of a set of ints, any number of them -/
theorem sorted_setA {a : Addr} {S : Int → Bool} {n : Nat} {Q : Value → Shared → Prop} (R : SetR w s.heap a S n) (hh : A.handled = none)
    (fin : ∀ s' p (out : List Value) (c : Nat) (ns : List Int), (∀ b o, s.heap.get? b = some o → s'.heap.get? b = some o) → s'.gens = s.gens → s'.os = s.os → s.heap.objs.size ≤ p →
      s'.heap.get? p = some (seqObj "list" out.toArray c) → IntsAre out ns → ns.Pairwise (· < ·) → (∀ k, k ∈ ns ↔ S k = true) → ns.length ≤ 100000 → Q (.ref p) s') : wpAny (model P w) A (call (.builtin "sorted") [.ref a]) Q E s := by
  obtain ⟨o, es, ep, t, ho, hex, hd, g, nd, hm, hb, hf, hn, hr, hl⟩ := R
  refine Calls.call_function_entry kind_sorted plain_sorted entry_sorted (args_sorted1 _) ?_
  unfold Builtin.«sorted»
  refine wpAny_bind (m := checkCount "sorted" 1 1 _) (wpAny_pure (wpAny_bind (collect_set (A := A.in1) hh ⟨o, ho, hex.1, hd⟩ hf hb hr hl fun s1 vs k1 hz g1 o1 pm => ?_)))
  have lv : vs.length = es.size := by rw [pm.length_eq, List.length_map, Array.length_toList]
  have vi : IntsAre vs (vs.map Builtin.Re.reRawOf) := ints_of vs fun v hv => by
    obtain ⟨e, he, q⟩ := List.mem_map.mp (pm.mem_iff.mp hv); obtain ⟨k, tk, h1, _⟩ := g e he; exact ⟨k, tk, by rw [← q]; exact h1⟩
  have pk : (vs.map Builtin.Re.reRawOf).Perm (es.toList.map keyOf) := by have q := pm.map Builtin.Re.reRawOf; rw [List.map_map] at q; exact q
  have small : vs.length ≤ sizeLine := by rw [lv, sizeLine_eq]; unfold scanBound at hb; omega
  refine wpAny_bind (wpAny_newList ?_ small)
  have oL : (s1.heap.push (seqObj "list" vs.toArray 0)).get? s1.heap.objs.size = some (seqObj "list" vs.toArray 0) := Heap.get?_push_size _ rfl
  refine wpAny_bind (wpAny_holding (wpAny_call_entry slot_list_sort ⟨_, oL, rfl⟩ entry_list_sort (SrtO.list_sort_ord SrtO.swo_int oL small (fun h2 => SrtO.ints_sortable vi h2) fun out h1 h2 => ⟨.none, rfl, ?_⟩) (args_list_sort _)))
  obtain ⟨q1, q2, q3⟩ := SrtO.ints_out vi h1 h2
  obtain ⟨c, hc⟩ := sortedHeap_at (vs := vs) (out := out.toArray) oL
  have pn := q2.trans pk
  refine wpAny_pure ⟨_, rfl, fin _ s1.heap.objs.size out c _ (fun b u e => ?_) g1 o1 hz hc q1 (le_to_lt q3 (pn.nodup_iff.mpr nd)) (fun k => by rw [pn.mem_iff, ← hm k]) ?_⟩
  · have q := k1 b u e
    have lt := Heap.lt_size q
    exact (show _ = _ from sortedHeap_old (Nat.ne_of_lt lt) (by rw [Heap.size_push]; exact Nat.lt_succ_of_lt lt)).trans (Heap.get?_push_of_some _ q)
  · rw [pn.length_eq, List.length_map, Array.length_toList]; unfold scanBound at hb; omega
end
/-! sorted(set(x)) -/
section
variable {X : Cx} {ct : Nat → Addr} {c : Cf} {W : WX} {K : PySem.W.Frag}
def rSrtS (K : PySem.W.Frag) : V → Hp → VK → Prop := fun x H Q => ∃ (l : Addr) (ns : List Int), x = .ref l ∧ (SqL K H l (ns.map V.int) ∧ (dedI ns).length ≤ 4000 ∨ SqT K H l (ns.map V.int) ∧ ns.length ≤ 4000) ∧ ∀ p, H p = none → Q (.ref p) (upd H p (.lst ((sortI (dedI ns)).map V.int)))
theorem pe_srtS {a : Expr} {ta : TE} {p p2 q pos : Pos} (hg : Gl X "sorted") (hm : X.mg "sorted" = none) (hg2 : Gl X "set") (hm2 : X.mg "set" = none) (ha : PE X a ta) (hc : X.calm = true)
    (na : starEach [a] X.env = (false, eval a X.env) :: starEach [] X.env) : PE X (.Call (.Name "sorted" p) [.Call (.Name "set" p2) [a] [] q] [] pos) (tUn (rSrtS X.K) ta) := by
  refine ⟨fun pins s σ H Q I h => ?_⟩
  refine Call_ (ld_blt I hg hm (show bootBuiltins "sorted" = some (.builtin "sorted") from by decide +kernel) (PyProof.Rows.callWith_builtin1 (PyProof.Rows.args_cons (Call_ (ld_blt I hg2 hm2 boot_set ?_)) rfl) rfl rfl))
  refine PyProof.Rows.callWith_type1 (PyProof.Rows.args_cons (thn (ha.run pins s σ H _ I h) fun v s1 ⟨x, H1, I1, r1, l, ns, e, hq, q1⟩ => PyProof.Rows.args_nil ?_) na) na rfl
  subst e
  cases r1
  have cal := I1.ok.hd hc
  have go : ∀ (h' : Heap) (tk c : Nat), SetR X.w h' s1.heap.objs.size (fun j => decide (j ∈ ns)) c → (∀ b o, s1.heap.get? b = some o → h'.get? b = some o) → wpAny (model X.prog X.w) X.A (call (.builtin "sorted") [.ref s1.heap.objs.size]) (EP X pins σ Q) X.xe { s1 with heap := h', toks := tk } := fun h' tk c R kp => by
    have I2 : Inv X pins σ H1 { s1 with heap := h', toks := tk } := I1.kept fun b o e => kp b o e
    refine sorted_setA (s := { s1 with heap := h', toks := tk }) R cal fun s' p out c2 ms k g o hp hat hi lt hmem hln => ?_
    have em : ms = sortI (dedI ns) := by
      have pm : ms.Perm (sortI (dedI ns)) := ((List.perm_ext_iff_of_nodup (lt.imp fun h => Int.ne_of_lt h) (nodup_dedI ns)).mpr fun j => by rw [hmem, mem_dedI]; simp).trans (sortI_perm _).symm
      exact sorted_uniq pm (lt.imp fun h => Int.le_of_lt h) (sortI_sorted _)
    have hn : H1 p = none := I2.hok.fresh hp
    have hlen : (ms.map V.int).length ≤ sizeLine := by rw [List.length_map, sizeLine_eq]; omega
    have J : Inv X pins σ (upd H1 p (.lst (ms.map V.int))) { ({ s1 with heap := h', toks := tk } : Shared) with heap := s'.heap, gens := s'.gens, drawn := s'.drawn, toks := s'.toks } :=
      I2.call (ch := []) (Un.laid k hp hn) (I2.hok.laid k hp ⟨hlen, out, c2, vals_of_ints hi, hat⟩) (by rw [g]; exact I2.bare) (fun _ z => nomatch z)
    have e : s' = { s1 with heap := s'.heap, gens := s'.gens, drawn := s'.drawn, toks := s'.toks } := by
      obtain ⟨h5, g5, d5, t5, o5⟩ := s'
      have o6 : o5 = s1.os := o
      subst o6
      rfl
    rw [e]
    exact ⟨.ref p, _, J, rfl, by rw [em]; exact q1 p hn⟩
  rcases hq with ⟨hq, few⟩ | ⟨hq, hl⟩
  · obtain ⟨its, rv, pl, hz⟩ := I1.list hq
    exact set_of_list ns cal pl.isList (ints_of_vals rv) few fun h' tk c R k => PyProof.Rows.args_nil (go h' tk c R k)
  · obtain ⟨its, rv, pt, hz⟩ := I1.tuple hq
    exact call_set_tupI ns cal (show s1.heap.IsTuple l its.toArray from pt) (ints_of_vals rv) (by unfold scanBound; omega) fun h' tk c R _ k => PyProof.Rows.args_nil (go h' tk c R k)
def gSrtS : D → Option D
  | .tup xs => (unInts xs).bind fun ns => if ns.length ≤ 4000 then some (.lst ((sortI (dedI ns)).map D.int)) else none
  | .lst xs => (unInts xs).bind fun ns => if ns.length ≤ 4000 ∨ (dedI ns).length ≤ 4000 then some (.lst ((sortI (dedI ns)).map D.int)) else none
  | _ => none
theorem dedI_le : ∀ ns : List Int, (dedI ns).length ≤ ns.length
  | [] => Nat.le_refl _
  | x :: xs => by
    unfold dedI
    have := dedI_le xs
    split <;> simp <;> omega
theorem us_srtS : UnS K ct true (rSrtS K) gSrtS := fun G H dx x d Q s r e o => by
  unfold gSrtS at e
  split at e
  · rename_i xs
    obtain ⟨l, vs, rfl, hH, _, rv⟩ := r.tup_inv s
    cases en : unInts xs with
    | none => rw [en] at e; cases e
    | some ns =>
      rw [en] at e
      dsimp only [Option.bind] at e
      split at e
      · cases e
        rw [unInts_eq en] at rv
        rw [rv.ints] at hH
        exact ⟨l, ns, rfl, .inr ⟨.inl (.inl hH), by assumption⟩, fun p hp => o.newL s hp RVs.ofInts⟩
      · cases e
  · rename_i xs
    obtain ⟨l, vs, rfl, hH, rv⟩ := r.lst_inv s
    cases en : unInts xs with
    | none => rw [en] at e; cases e
    | some ns =>
      rw [en] at e
      dsimp only [Option.bind] at e
      split at e
      · rename_i few
        cases e
        rw [unInts_eq en] at rv
        rw [rv.ints] at hH
        refine ⟨l, ns, rfl, .inl ⟨.inl (.inl hH), ?_⟩, fun p hp => o.newL s hp RVs.ofInts⟩
        have := dedI_le ns
        omega
      · cases e
  · cases e
theorem je_srtS {a : Expr} {d : DE} {p p2 q pos : Pos} (hm : X.mg "sorted" = none) (hm2 : X.mg "set" = none) (ha : JE X ct c W false a d) (hc : X.calm = true := by rfl) (hg : Gl X "sorted" := by rfl) (hg2 : Gl X "set" := by rfl)
    (na : starEach [a] X.env = (false, eval a X.env) :: starEach [] X.env := by rfl) : JE X ct c W true (.Call (.Name "sorted" p) [.Call (.Name "set" p2) [a] [] q] [] pos) (dUn gSrtS d) := by
  obtain ⟨ta, pa, sa⟩ := ha
  exact ⟨_, pe_srtS hg hm hg2 hm2 pa hc na, sim_un us_srtS sa⟩
/-! f() -/
def dCall0 (df : DF) : DE := fun env => match df [] with
  | .ok d _ => .ok (.val d) env
  | .rn d _ => .ok (.val d) env
  | _ => .no
theorem je_call0F {k : Nat} {df : DF} {x : Str} {p pos : Pos} (F : FnT X.prog X.w X.K X.mg X.base ct x k 0 false df) (hr : Room k X.A) (hg : Gl X x := by rfl) (hdb : (x == ("__debug__" : Str)) = false := by decide) : JE X ct c W false (.Call (.Name x p) [] [] pos) (dCall0 df) := by
  obtain ⟨f, fd, ps, h1, h2, h3, h4⟩ := F
  refine ⟨_, pe_call0 (E := fun _ _ _ => False) h1 hr hg h2 h3 h4 .nil (fun pins σ H s e s' I z => by
    obtain ⟨_, _, _, _, _, _, _, _, _, _, _, _, z⟩ := z
    exact z.elim) hdb, fun G H env σ Q r q => ?_⟩
  refine ⟨G, [], none, ⟨r.sub, r.tp⟩, rfl, ⟨rfl, .nil⟩, ?_⟩
  unfold dCall0 at q
  cases e : df [] with
  | no => rw [e] at q; exact q
  | ex x o => rw [e] at q; exact q.elim
  | ok d o =>
    rw [e] at q
    exact fun G' H' v a _ h => q G' H' v a.grow.stp (r.grow a.grow) h (fun z => nomatch z)
  | rn d o =>
    rw [e] at q
    intro G' H' v a _ h hn
    obtain ⟨b, ob, rfl, hp, hgb⟩ := h.top
    have gr := a.grow.frz (hn b rfl) hp hgb
    exact q _ H' _ gr.stp (r.grow gr) (own_frz h hp) (fun z => nomatch z)
/-! list(d) of a dict -/
theorem vals_by : ∀ {vs : List V} {us : List Value}, vs.length = us.length → (∀ (i : Nat) (v : V) (u : Value), vs[i]? = some v → us[i]? = some u → RelV v u) → Vals vs us
  | [], [], _, _ => .nil
  | [], _ :: _, h, _ => by cases h
  | _ :: _, [], h, _ => by cases h
  | v :: vs, u :: us, h, k => .cons (k 0 v u rfl rfl) (vals_by (by simpa using h) fun i a b e1 e2 => k (i + 1) a b (by simpa using e1) (by simpa using e2))
def rListD : List V → Hp → VK → Prop := fun xs H Q => ∃ (a : Addr) (kvs : List (Key × V)), xs = [.ref a] ∧ H a = some (.dK kvs) ∧ ∀ l, H l = none → Q (.ref l) (upd H l (.lst (kvs.map fun kv => kV kv.1)))
theorem call_listD (hc : X.calm = true) : CallR X (.type "list") rListD := by
  intro pins s σ H xs us Q I rx h
  obtain ⟨a, kvs, rfl, ha, q⟩ := h
  rw [Vals.ref1 rx]
  obtain ⟨hz, hs0, vs, kv, hdo⟩ := dk_of I.hok ha
  obtain ⟨ep, hat⟩ := hdo.dictAt
  have lk : kvs.length = vs.length := Paired.length kv
  refine PySem.W.kdl_call (PySem.W.kdl_dict (knd := mixKind X.prog X.w) (kvs := vs) (ep := ep) hs0) (I.ok.hd hc) hat (by omega) fun h' tk acc c hk hS hI => ?_
  have hn : H s.heap.objs.size = none := I.hok.fresh (Nat.le_refl _)
  have rel : Vals (kvs.map fun kv => kV kv.1) acc.toList := by
    obtain ⟨h1, h2⟩ := hI
    refine vals_by ((List.length_map _).trans (lk.trans (h1.symm.trans Array.length_toList.symm))) fun i v u e1 e2 => ?_
    rw [List.getElem?_map] at e1
    obtain ⟨kx, ek, ev⟩ := Option.map_eq_some_iff.mp e1
    obtain ⟨k, y, e3, e4⟩ := h2 i u (by rw [← Array.getElem?_toList]; exact e2)
    obtain ⟨q, g1, g2, _⟩ := LiI.paired_get kv ek
    rw [e3] at g1
    cases g1
    subst ev
    rw [g2]
    exact relV_key (show keyIs k u = true from e4)
  have hlen : (kvs.map fun kv => kV kv.1).length ≤ sizeLine := by rw [List.length_map]; exact hz
  exact ⟨.ref _, _, I.laid (o := .lst (kvs.map fun kv => kV kv.1)) (t' := tk) hk (Nat.le_refl _) ⟨hlen, acc.toList, c, rel, by rw [Array.toArray_toList]; exact hS⟩, rfl, q _ hn⟩
/-- list(x): a list, a tuple, a dict's keys -/
def rListA (K : PySem.W.Frag) : List V → Hp → VK → Prop := fun xs H Q => (∃ p ys, xs = [.ref p] ∧ (SqL K H p ys ∨ SqT K H p ys) ∧ ∀ l, H l = none → Q (.ref l) (upd H l (.lst ys))) ∨ rListD xs H Q
theorem call_listA (hc : X.calm = true) : CallR X (.type "list") (rListA X.K) := CallR.or call_list_of (call_listD hc)
def bListA : List D → Option D
  | [.dK kvs] => some (.lst (kvs.map fun kv => keyVal kv.1))
  | xs => bList xs
theorem RKs.keys {G : Hp} : ∀ {xs : List (Key × D)} {vs : List (Key × V)}, RKs K ct G xs vs → RVs K ct G (xs.map fun kv => keyVal kv.1) (vs.map fun kv => kV kv.1)
  | _, _, .nil => .nil
  | _, _, .cons _ t => .cons (keyVal_rv _) (RKs.keys t)
theorem fs_listA : FnS K ct true (rListA K) bListA := fun G H ds vs d Q s r e o => by
  unfold bListA at e
  split at e
  · cases e
    obtain ⟨v, rfl, rd⟩ := rds1 r
    obtain ⟨a, us, rfl, ha, rk⟩ := rd.dK_inv s
    exact .inr ⟨a, us, rfl, ha, fun l hl => o.newL s hl rk.keys⟩
  · exact .inl (fs_list G H ds vs d Q s r e o)
/-! list(d.items()) -/
def gItems : D → Option D
  | .dK kvs => some (.lst (kvs.map fun kv => .tup [keyVal kv.1, kv.2]))
  | _ => none
/-- G with all new tuples -/
def newT (G H H' : Hp) : Hp := fun b => match H b, H' b with
  | none, some (.tup vs) => some (.tup vs)
  | _, _ => G b
theorem newT_at {G H H' : Hp} {b : Addr} {vs : List V} (h : H b = none) (h' : H' b = some (.tup vs)) : newT G H H' b = some (.tup vs) := by unfold newT; rw [h, h']
theorem newT_lst {G H H' : Hp} {b : Addr} {vs : List V} (h' : H' b = some (.lst vs)) : newT G H H' b = G b := by
  unfold newT
  rw [h']
  cases H b <;> rfl
theorem newT_old {G H H' : Hp} {b : Addr} {o : HO} (h : H b = some o) : newT G H H' b = G b := by
  unfold newT
  rw [h]
theorem newT_cases {G H H' : Hp} {b : Addr} {o : HO} (h : newT G H H' b = some o) : G b = some o ∨ (H b = none ∧ ∃ vs, o = .tup vs ∧ H' b = some (.tup vs)) := by
  unfold newT at h
  split at h
  · rename_i vs h1 h2
    cases h
    exact .inr ⟨h1, vs, rfl, h2⟩
  · exact .inl h
theorem newT_grow {G H H' : Hp} (s : Same G H) (k : ∀ b o, H b = some o → H' b = some o) : Grow G H (newT G H H') H' where
  g := fun b o e => by rw [newT_old (s _ _ e)]; exact e
  h := fun b o e => k b o e
  s := fun b o e => by
    rcases newT_cases e with e' | ⟨_, vs, h1, e'⟩
    · exact k b o (s _ _ e')
    · rw [h1]; exact e'
  n := fun b o e => by
    rcases newT_cases e with e | ⟨e, _⟩
    · exact .inl e
    · exact .inr e
  t := fun b vs e => by
    cases z : H b with
    | none => exact .inr (newT_at z e)
    | some o => have := k b o z; rw [e] at this; exact .inl (congrArg some (Option.some.inj this).symm)
theorem us_items : UnS K ct true LiI.rItemsL gItems := fun G H dx x d Q s r e o => by
  unfold gItems at e
  split at e
  · rename_i kvs
    cases e
    obtain ⟨a, us, rfl, ha, rk⟩ := r.dK_inv s
    refine ⟨a, us, rfl, ha, fun H' p ts k1 hp ht hpt hl pr => ?_⟩
    -- the pairs are known for good, the list is new
    have gt : ∀ t ∈ ts, G t = none := fun t m => s.free (ht t m)
    have gp : G p = none := s.free hp
    let G' : Hp := newT G H H'
    have e1 : ∀ b vs, b ∈ ts → H' b = some (.tup vs) → G' b = some (.tup vs) := fun b vs m h => newT_at (ht b m) h
    have gr : Grow G H G' H' := newT_grow s k1
    have sm : Same G G' := gr.g
    have rvs : ∀ {ks : List (Key × D)} {ws : List (Key × V)} {as : List Addr}, RKs K ct G ks ws → Paired (fun (t : Addr) (q : Key × V) => H' t = some (.tup [kV q.1, q.2])) as ws → (∀ t ∈ as, t ∈ ts) → RVs K ct G' (ks.map fun kv => .tup [keyVal kv.1, kv.2]) (as.map V.ref) := fun {ks ws as} r => by
      induction ks generalizing ws as with
      | nil => intro p m; cases r; cases p; exact .nil
      | cons z ks ih =>
        intro p m
        cases r with
        | cons r1 rt =>
          cases p with
          | cons p1 pt => exact .cons (.tup (e1 _ _ (m _ List.mem_cons_self) p1) (.cons (keyVal_rv _) (.cons (r1.mono sm) .nil))) (ih rt pt fun t h => m t (List.mem_cons_of_mem _ h))
    exact o G' H' (.ref p) gr ⟨⟨ts.map V.ref, hl, (newT_lst hl).trans gp, rvs rk pr fun t h => h⟩, fun q e => by cases e; exact hp⟩
  · cases e
theorem je_items {e : Expr} {d : DE} {p apos cpos pos : Pos} (hm : X.mg "list" = none) (he : JE X ct c W false e d) (hc : X.calm = true := by rfl) (hg : Gl X "list" := by rfl) (hbase : attributeBase e "items" X.env (eval e X.env) = eval e X.env := by rfl) (hline : (apos.endLine == cpos.line) = true := by rfl)
    (hs : starEach [.Call (.Attribute e "items" apos) [] [] cpos] X.env = (false, eval (.Call (.Attribute e "items" apos) [] [] cpos) X.env) :: starEach [] X.env := by rfl) :
    JE X ct c W true (.Call (.Name "list" p) [.Call (.Attribute e "items" apos) [] [] cpos] [] pos) (dUn gItems d) := by
  obtain ⟨t, p1, s1⟩ := he
  exact ⟨_, LiI.pe_listItems hc p1 hg hm (by decide +kernel) hbase hline hs, sim_un us_items s1⟩
/-- an object that nobody holds changes -/
theorem Rel.off {G H : Hp} {env : Env} {σ : L2.St} {q : Addr} {o : HO} (R : Rel K ct c G H env σ) (hn : ∀ i, i ∈ c.own → σ[i]? ≠ some (some (.ref q))) (h0 : c.H0 q = none) (hio : q ∉ c.io) (hg : G q = none) (ho : ∀ vs, o ≠ .tup vs := by intro _ z; cases z) : Rel K ct c G (upd H q o) env σ := by
  refine ⟨fun b x e => by rw [upd_ne (ne_of_none e hg)]; exact R.sub _ _ e, R.up, R.dn, fun b x e hb => ?_, fun b hb => ?_, R.len, fun i d e => ?_, R.dis, R.un, R.fix, R.pin, fun b vs e => by
    by_cases hb : b = q
    · subst hb; rw [upd_same] at e; exact absurd (Option.some.inj e) (ho vs)
    · rw [upd_ne hb] at e; exact R.tp b vs e⟩
  · rw [upd_ne (fun z => by rw [z, h0] at e; cases e)]; exact R.fr b x e hb
  · rw [upd_ne (fun z => hio (by rw [← z]; exact hb))]; exact R.ioH b hb
  · obtain ⟨v, hv, a1, a2⟩ := R.slot i d e
    refine ⟨v, hv, a1, fun ho => ?_⟩
    rcases a2 ho with ⟨b1, b2⟩ | b
    · obtain ⟨p, u, rfl, hp, gp⟩ := b1.top
      refine .inl ⟨b1.step (.refl _) (fun w hw => ?_) gp, b2⟩
      rw [upd_ne (fun z => hn i ho (by rw [← z]; exact hv))]; exact hw
    · exact .inr b
/-! {k: v, ..} -/
inductive RQ where
  | ok (ps : List (D × D)) (env : Env) | ex (x : Ex) (env : Env) | no
abbrev DQ := Env → RQ
def qNil : DQ := fun env => .ok [] env
def qCons (k v : DE) (r : DQ) : DQ := fun env => match k env with
  | .ok (.val dk) e1 => match v e1 with
    | .ok (.val dv) e2 => match r e2 with
      | .ok ps e3 => .ok ((dk, dv) :: ps) e3
      | .ex q e3 => .ex q e3
      | .no => .no
    | .ok _ _ => .no
    | .ex q e2 => .ex q e2
    | .no => .no
  | .ok _ _ => .no
  | .ex q e1 => .ex q e1
  | .no => .no
inductive RVps (K : PySem.W.Frag) (ct : Nat → Addr) (G : Hp) : List (D × D) → List (V × V) → Prop
  | nil : RVps K ct G [] []
  | cons {k v : D} {x y : V} {ps : List (D × D)} {qs : List (V × V)} : RV K ct G k x → RV K ct G v y → RVps K ct G ps qs → RVps K ct G ((k, v) :: ps) ((x, y) :: qs)
def PostQ (K : PySem.W.Frag) (ct : Nat → Addr) (c : Cf) (W : WX) (G H : Hp) (σ : L2.St) (Q : List (V × V) → Hp → Prop) : RQ → Prop
  | .ok ps env' => ∀ G' H' qs, Stp c σ G H G' H' → Rel K ct c G' H' env' σ → RVps K ct G' ps qs → Q qs H'
  | .ex x env' => ∀ G' H' cls dd, Stp c σ G H G' H' → Rel K ct c G' H' env' σ → RE K ct G' x cls dd → W cls dd σ H'
  | .no => False
def JQ (X : Cx) (ct : Nat → Addr) (c : Cf) (W : WX) (pos : Pos) (ks : List (Option Expr)) (vs : List Expr) (d : DQ) : Prop := ∃ t, PPs X pos ks vs t ∧ ∀ G H env σ Q, Rel X.K ct c G H env σ → PostQ X.K ct c W G H σ Q (d env) → tPairs t σ H Q
theorem jq_nil {pos : Pos} : JQ X ct c W pos [] [] qNil := ⟨_, pps_nil, fun G H env σ Q r p => p G H [] .refl r .nil⟩
theorem jq_cons {pos : Pos} {k v : Expr} {ks : List (Option Expr)} {vs : List Expr} {dk dv : DE} {r : DQ} (hk : JE X ct c W false k dk) (hv : JE X ct c W false v dv) (hr : JQ X ct c W pos ks vs r) : JQ X ct c W pos (some k :: ks) (v :: vs) (qCons dk dv r) := by
  obtain ⟨tk, p1, s1⟩ := hk
  obtain ⟨tv, p2, s2⟩ := hv
  obtain ⟨tr, p3, s3⟩ := hr
  refine ⟨_, pps_cons p1 p2 p3, fun G H env σ Q rel p => s1 G H env σ _ rel ?_⟩
  unfold qCons at p
  cases ea : dk env with
  | no => rw [ea] at p; exact p
  | ex q e1 => rw [ea] at p; exact p
  | ok rk e1 =>
    rw [ea] at p
    intro G1 H1 x S1 R1 X1 _
    cases rk with
    | slot i => exact p.elim
    | val k1 =>
      dsimp only at p
      refine s2 G1 H1 e1 σ _ R1 ?_
      cases eb : dv e1 with
      | no => rw [eb] at p; exact p
      | ex q e2 => rw [eb] at p; exact fun G' H' cls dd s R h => p G' H' cls dd (S1.trans s) R h
      | ok rv e2 =>
        rw [eb] at p
        intro G2 H2 y S2 R2 X2 _
        cases rv with
        | slot i => exact p.elim
        | val v1 =>
          dsimp only at p
          refine s3 G2 H2 e2 σ _ R2 ?_
          cases ec : r e2 with
          | no => rw [ec] at p; exact p
          | ex q e3 => rw [ec] at p; exact fun G' H' cls dd s R h => p G' H' cls dd ((S1.trans S2).trans s) R h
          | ok ps e3 =>
            rw [ec] at p
            exact fun G3 H3 qs S3 R3 X3 => p G3 H3 _ ((S1.trans S2).trans S3) R3 (.cons (RV.mono (S2.g.trans S3.g) X1) (RV.mono S3.g X2) X3)
def keyPs : List (D × D) → Option (List (Key × D))
  | [] => some []
  | (k, v) :: r => match keyD k, keyPs r with
    | some a, some b => some ((a, v) :: b)
    | _, _ => none
theorem keyPs_rv {G : Hp} : ∀ {ps : List (D × D)} {qs : List (V × V)} {ks : List (Key × D)}, RVps K ct G ps qs → keyPs ps = some ks → ∃ vs, RKs K ct G ks vs ∧ qs = vs.map fun kv => (kV kv.1, kv.2)
  | _, _, _, .nil, e => by cases e; exact ⟨[], .nil, rfl⟩
  | _, _, _, .cons r1 r2 t, e => by
    unfold keyPs at e
    split at e
    · rename_i a b e1 e2
      cases e
      obtain ⟨vs, h1, h2⟩ := keyPs_rv t e2
      exact ⟨_, .cons r2 h1, by rw [h2, keyD_rv (H := G) (.inl r1) e1]; rfl⟩
    · cases e
def mergeD (kvs more : List (Key × D)) : List (Key × D) := more.foldl (fun acc kv => putD acc kv.1 kv.2) kvs
theorem RKs.merge {G : Hp} : ∀ {more : List (Key × D)} {us : List (Key × V)} {kvs : List (Key × D)} {vs : List (Key × V)}, RKs K ct G more us → RKs K ct G kvs vs → RKs K ct G (mergeD kvs more) (mergeK vs us)
  | _, _, _, _, .nil, r => r
  | _, _, _, _, .cons (k := k) q t, r => by have z := RKs.merge t (r.put (k := k) q); exact z
def dDict (a : DQ) : DE := fun env => match a env with
  | .ok ps e1 => match keyPs ps with
    | some ks => if ks.length ≤ 15 then .ok (.val (.dK (mergeD [] ks))) e1 else .no
    | none => .no
  | .ex q e1 => .ex q e1
  | .no => .no
theorem je_dict {pos : Pos} {keys : List (Option Expr)} {values : List Expr} {d : DQ} (h : JQ X ct c W pos keys values d) (hall : keys.all (·.isSome) = true := by rfl) (hl : keys.length = values.length := by rfl) (h0 : keys ≠ [] := by exact fun z => nomatch z) (h15 : keys.length ≤ 15 := by decide) : JE X ct c W true (.Dict keys values pos) (dDict d) := by
  obtain ⟨t, p1, s1⟩ := h
  refine ⟨_, pe_disp p1 hall hl h0 h15, fun G H env σ Q rel p => fun q hq => ?_⟩
  have g1 := Grow.out (o := .dK []) rel.sub hq
  have gq : G q = none := rel.sub.free hq
  have R1 := rel.grow g1
  have nown : ∀ i, i ∈ c.own → σ[i]? ≠ some (some (.ref q)) := fun i hi hσ => by
    obtain ⟨o, ho⟩ := rel.own_ref hi hσ
    rw [hq] at ho; cases ho
  refine s1 G _ env σ _ R1 ?_
  unfold dDict at p
  cases ea : d env with
  | no => rw [ea] at p; exact p
  | ex x e1 => rw [ea] at p; exact fun G' H' cls dd s R h => p G' H' cls dd (g1.stp.trans s) R h
  | ok ps e1 =>
    rw [ea] at p
    intro G2 H2 qs S2 R2 X2
    dsimp only at p
    cases ek : keyPs ps with
    | none => rw [ek] at p; exact p.elim
    | some ks =>
      rw [ek] at p
      dsimp only at p
      split at p
      · rename_i hk
        obtain ⟨vs, rk, eq⟩ := keyPs_rv X2 ek
        have hH2 : H2 q = some (.dK []) := S2.h q _ upd_same nown
        have hG2 : G2 q = none := by
          cases z : G2 q with
          | none => rfl
          | some u =>
            rcases S2.n q u z with y | y | ⟨i, y1, y2⟩
            · rw [gq] at y; cases y
            · rw [upd_same] at y; cases y
            · exact absurd y2 (nown i y1)
        have lk : vs.length ≤ 15 := by rw [← rk.len]; exact hk
        refine ⟨hH2, vs, eq, lk, ?_⟩
        have h0q : c.H0 q = none := rel.h0 hq
        have ioq : q ∉ c.io := fun z => by obtain ⟨o, ho⟩ := rel.ioH q z; rw [hq] at ho; cases ho
        refine p G2 _ _ ⟨S2.g, fun b x e n => ?_, fun b x e => ?_⟩ (R2.off nown h0q ioq hG2) ⟨_, upd_same, hG2, rk.merge .nil⟩ (fun _ b e => by cases e; exact hq)
        · have z : b ≠ q := fun z => by rw [z, hq] at e; cases e
          rw [upd_ne z]
          exact S2.h b x (by rw [upd_ne z]; exact e) n
        · rcases S2.n b x e with y | y | y
          · exact .inl y
          · by_cases z : b = q
            · subst z; exact .inr (.inl hq)
            · rw [upd_ne z] at y; exact .inr (.inl y)
          · exact .inr (.inr y)
      · exact p.elim
end
end Dn

namespace Dn
open PySem PySem.Spec PyProof.Rows L2
section
variable {X : Cx} {ct : Nat → Addr} {c : Cf} {W : WX} {K : PySem.W.Frag}
/-! methods that only read: a list's, a text's -/
def tyD (T : String) : D → Bool
  | .lst _ => T == "list"
  | .fls _ => T == "list"
  | .str _ => T == "str"
  | _ => false
theorem tyD_ok {G H : Hp} {T : String} {d : D} {x : V} (s : Same G H) (r : RD K ct G H d x) (h : tyD T d = true) : tyV K T x H := by
  unfold tyD at h
  split at h
  · obtain ⟨p, vs, rfl, hp, _⟩ := r.lst_inv s; exact .inl ⟨by simpa using h, vs, .inl (.inl hp)⟩
  · obtain ⟨p, vs, rfl, hp, _, _⟩ := r.fls_inv s; exact .inl ⟨by simpa using h, vs, hp⟩
  · rw [r.str_inv]; exact (by simpa using h : T = "str")
  · cases h
def dMeth (T : String) (g : D → List D → Option D) (o : DE) (a : DA) : DE := fun env => match o env with
  | .ok x e1 => match rd e1 x with
    | some d1 => match tyD T d1 with
      | true => match a e1 with
        | .ok xs e2 => match rd e2 x, rds e2 xs with
          | some d, some ds => match g d ds with | some r => .ok (.val r) e2 | none => .no
          | _, _ => .no
        | .ex q e2 => .ex q e2
        | .no => .no
      | false => .no
    | none => .no
  | .ex q e1 => .ex q e1
  | .no => .no
def MthS (K : PySem.W.Frag) (ct : Nat → Addr) (f : Bool) (r : V → List V → Hp → VK → Prop) (g : D → List D → Option D) : Prop := ∀ G H dx x ds vs d Q, Same G H → RD K ct G H dx x → RDs K ct G H ds vs → g dx ds = some d → Out K ct f G H d Q → r x vs H Q
theorem sim_meth {f : Bool} {T : String} {r : V → List V → Hp → VK → Prop} {g : D → List D → Option D} {to : TE} {ta : TA} {o : DE} {a : DA} (hs : MthS K ct f r g) (so : SimE K ct c W false to o) (sa : SimA K ct c W ta a) : SimE K ct c W f (tBM K T r to ta) (dMeth T g o a) := fun G H env σ Q rel p => by
  refine so G H env σ _ rel ?_
  unfold dMeth at p
  cases ea : o env with
  | no => rw [ea] at p; exact p
  | ex q e1 => rw [ea] at p; exact p
  | ok x e1 =>
    rw [ea] at p
    intro G1 H1 v1 s1 R1 X1 _
    dsimp only at p
    cases z1 : rd e1 x with
    | none => rw [z1] at p; exact p.elim
    | some d1 =>
      rw [z1] at p
      dsimp only at p
      cases z2 : tyD T d1 with
      | false => rw [z2] at p; exact p.elim
      | true =>
        rw [z2] at p
        dsimp only at p
        refine ⟨tyD_ok R1.sub (X1.rd R1 z1) z2, sa G1 H1 e1 σ _ R1 ?_⟩
        cases eb : a e1 with
        | no => rw [eb] at p; exact p
        | ex q e2 => rw [eb] at p; exact fun G' H' cls dd s R h => p G' H' cls dd (s1.trans s) R h
        | ok xs e2 =>
          rw [eb] at p
          intro G2 H2 vs s2 R2 X2
          dsimp only at p
          cases z3 : rd e2 x with
          | none => rw [z3] at p; exact p.elim
          | some d =>
            cases z4 : rds e2 xs with
            | none => rw [z3, z4] at p; exact p.elim
            | some ds =>
              rw [z3, z4] at p
              dsimp only at p
              cases z5 : g d ds with
              | none => rw [z5] at p; exact p.elim
              | some r5 =>
                rw [z5] at p
                exact hs G2 H2 d v1 ds vs r5 Q R2.sub ((X1.mono (H' := H2) s2.g).rd R2 z3) (X2.rds R2 z4) z5 (Out.post R2 (s1.trans s2) p)
theorem je_meth {f : Bool} {T id : String} {name : Str} {r : V → List V → Hp → VK → Prop} {g : D → List D → Option D} {o e : Expr} {es : List Expr} {d : DE} {a : DA} {apos cpos : Pos} (pa : PlainAttrs T) (slot : Slot T name id) (hty : typeOf (.builtin id) = pure (.type "method_descriptor")) (hm : MtR X id r) (hs : MthS X.K ct f r g)
    (ho : JE X ct c W false o d) (ha : JA X ct c W (e :: es) a) (hbase : attributeBase o name X.env (eval o X.env) = eval o X.env := by rfl)
    (hfw : ((backTo cpos (starEach (e :: es) X.env)).all (fun x => !x.1) && (backToKw cpos (keywordEach [] X.env)).all (fun x => x.1.isSome) && decide ((e :: es).length + ([] : List Keyword).length + (if ([] : List Keyword).isEmpty then 0 else 1) < 30)) = true := by rfl)
    (hline : (apos.endLine == cpos.line) = true := by rfl) (hst : starEach (e :: es) X.env = (false, eval e X.env) :: starEach es X.env := by rfl) (hplain : (backTo cpos (starEach es X.env)).any (·.1) = false := by rfl) :
    JE X ct c W f (.Call (.Attribute o name apos) (e :: es) [] cpos) (dMeth T g d a) :=
  let ⟨_, p1, s1⟩ := ho; let ⟨_, p2, s2⟩ := ha; ⟨_, pe_bm pa slot hty hm p1 p2 hbase hfw hline hst hplain, sim_meth hs s1 s2⟩
/-! count -/
def mCount : D → List D → Option D
  | .lst xs, [.int k] => (unInts xs).map fun ns => .int (ns.count k : Nat)
  | _, _ => none
theorem mh_count : MthS K ct false (rCntI K) mCount := fun G H dx x ds vs d Q s r1 r2 e o => by
  unfold mCount at e
  split at e
  · obtain ⟨p, us, rfl, hp, rv⟩ := r1.lst_inv s
    obtain ⟨v, rfl, rk⟩ := rds1 r2
    rw [rk.int_inv]
    rename_i xs k
    cases en : unInts xs with
    | none => rw [en] at e; cases e
    | some ns =>
      rw [en] at e
      cases e
      rw [unInts_eq en] at rv
      rw [rv.ints] at hp
      exact ⟨p, ns, k, rfl, rfl, .inl (.inl hp), o.val s (.int _)⟩
  · cases e
/-! texts: join, split, str(n) -/
def unStrs : List D → Option (List Str)
  | [] => some []
  | .str x :: r => (unStrs r).map (x :: ·)
  | _ :: _ => none
theorem unStrs_rv {G : Hp} : ∀ {xs : List D} {vs : List V} {ss : List Str}, RVs K ct G xs vs → unStrs xs = some ss → vs = ss.map V.str
  | [], _, _, .nil, e => by cases e; rfl
  | .str x :: r, _, ss, .cons h t, e => by
    cases e1 : unStrs r with
    | none => unfold unStrs at e; rw [e1] at e; cases e
    | some q =>
      unfold unStrs at e
      rw [e1] at e
      cases e
      rw [h.str_inv, unStrs_rv t e1]
      rfl
theorem RVs.ofStrs {G : Hp} : ∀ {xs : List Str}, RVs K ct G (xs.map D.str) (xs.map V.str)
  | [] => .nil
  | x :: xs => .cons (.str x) RVs.ofStrs
end
end Dn

namespace Dn
open PySem PySem.Spec PyProof.Rows L2
section
variable {X : Cx} {ct : Nat → Addr} {c : Cf} {W : WX} {K : PySem.W.Frag}
/-! texts -/
def okJoin (a : Str) (ys : List Str) : Bool := decide ((ys.map (·.length)).sum + ys.length * a.length ≤ 1000000)
def mJoin : D → List D → Option D
  | .str a, [.lst xs] => (unStrs xs).bind fun ys => if okJoin a ys then some (.str (Txt.join a ys)) else none
  | .str a, [.tup xs] => (unStrs xs).bind fun ys => if okJoin a ys then some (.str (Txt.join a ys)) else none
  | _, _ => none
theorem mh_join : MthS K ct false (fun x xs H Q => ∃ a p, ∃ ys : List Str, x = .str a ∧ xs = [.ref p] ∧ (SqL K H p (ys.map V.str) ∨ SqT K H p (ys.map V.str)) ∧ (ys.map (·.length)).sum + ys.length * a.length ≤ 16777216 ∧ Q (.str (Txt.join a ys)) H) mJoin := fun G H dx x ds vs d Q s r1 r2 e o => by
  have fin : ∀ {a : Str} {xs : List D} {us : List V} {p : Addr}, x = .str a → vs = [.ref p] → RVs K ct G xs us → (∀ ys : List Str, us = ys.map V.str → SqL K H p (ys.map V.str) ∨ SqT K H p (ys.map V.str)) → ((unStrs xs).bind fun ys => if okJoin a ys then some (.str (Txt.join a ys)) else none) = some d →
      ∃ a p, ∃ ys : List Str, x = .str a ∧ vs = [.ref p] ∧ (SqL K H p (ys.map V.str) ∨ SqT K H p (ys.map V.str)) ∧ (ys.map (·.length)).sum + ys.length * a.length ≤ 16777216 ∧ Q (.str (Txt.join a ys)) H := fun {a xs us p} hx hv rv hq e => by
    cases en : unStrs xs with
    | none => rw [en] at e; cases e
    | some ys =>
      rw [en] at e
      dsimp only [Option.bind] at e
      split at e
      · rename_i ok
        cases e
        have := of_decide_eq_true ok
        exact ⟨a, p, ys, hx, hv, hq ys (unStrs_rv rv en), by omega, o.val s (.str _)⟩
      · cases e
  unfold mJoin at e
  split at e
  · obtain ⟨v, rfl, rk⟩ := rds1 r2
    obtain ⟨p, us, rfl, hp, rv⟩ := rk.lst_inv s
    exact fin r1.str_inv rfl rv (fun ys e => by rw [e] at hp; exact .inl (.inl (.inl hp))) e
  · obtain ⟨v, rfl, rk⟩ := rds1 r2
    obtain ⟨p, us, rfl, hp, _, rv⟩ := rk.tup_inv s
    exact fin r1.str_inv rfl rv (fun ys e => by rw [e] at hp; exact .inr (.inl (.inl hp))) e
  · cases e
def mSplit : D → List D → Option D
  | .str a, [.str b] => if (b.length == 0) = false ∧ a.length ≤ 1000000 then some (.lst ((Txt.split a b).map D.str)) else none
  | _, _ => none
theorem mh_split : MthS K ct true (fun x xs H Q => ∃ a b, x = .str a ∧ xs = [.str b] ∧ (b.length == 0) = false ∧ a.length + 2 ≤ sizeLine ∧ rNewStrs (Txt.split a b) H Q) mSplit := fun G H dx x ds vs d Q s r1 r2 e o => by
  unfold mSplit at e
  split at e
  · split at e
    · rename_i h
      cases e
      obtain ⟨v, rfl, rk⟩ := rds1 r2
      have : sizeLine = 16777216 := sizeLine_eq
      exact ⟨_, _, r1.str_inv, by rw [rk.str_inv], h.1, by omega, fun p hp => o.newL s hp RVs.ofStrs⟩
    · cases e
  · cases e
def bStr : List D → Option D
  | [.int i] => if i.natAbs.log2 < 1920 then some (.str (toString i)) else none
  | _ => none
theorem fs_str : FnS K ct false (fun xs H Q => ∃ i, xs = [.int i] ∧ i.natAbs.log2 < 1920 ∧ Q (.str (toString i)) H) bStr := fun G H ds vs d Q s r e o => by
  unfold bStr at e
  split at e
  · split at e
    · rename_i h
      cases e
      obtain ⟨v, rfl, rk⟩ := rds1 r
      exact ⟨_, by rw [rk.int_inv], h, o.val s (.str _)⟩
    · cases e
  · cases e
/-! f"a{x}b", x a text -/
def gFmt (a b : Str) : D → Option D
  | .str y => if a.length + y.length + b.length ≤ 1000000 then some (.str (((Str.empty ++ a) ++ y) ++ b)) else none
  | _ => none
theorem je_fmt3 {a b : Str} {e : Expr} {d : DE} {j1 j2 : Nat} {p1 p2 p3 pos : Pos} (he : JE X ct c W false e d) (ha : a.length ≤ 1000000 := by decide) : JE X ct c W false (.JoinedStr [.Constant (.str a) j1 p1, .FormattedValue e (-1) none p2, .Constant (.str b) j2 p3] pos) (dUn (gFmt a b) d) := by
  obtain ⟨t, q1, s1⟩ := he
  refine ⟨_, pe_joined (.cons pe_str (.cons (pe_fmt q1) (.cons pe_str .nil))), fun G H env σ Q rel p => ?_⟩
  have len : ∀ x y : Str, (x ++ y).length = x.length + y.length := fun x y => Str.length_append x y
  have sz : sizeLine = 16777216 := sizeLine_eq
  unfold dUn at p
  have e0 : (Str.empty ++ a).length = a.length := by rw [len]; show 0 + a.length = _; omega
  have small : (a.length ≤ 1000000 → t σ H fun x H1 => (∃ y : Str, x = .str y ∧ y.length ≤ sizeLine ∧ ∃ y_1 : Str, V.str y = .str y_1 ∧ ((Str.empty ++ a) ++ y_1).length ≤ sizeLine ∧ ∃ y_2 : Str, V.str b = .str y_2 ∧ (((Str.empty ++ a) ++ y_1) ++ y_2).length ≤ sizeLine ∧ Q (.str (((Str.empty ++ a) ++ y_1) ++ y_2)) H1) ∨
      ∃ i : Int, x = .int i ∧ i.natAbs.log2 < 1920 ∧ ∃ y_1 : Str, V.str (toString i) = .str y_1 ∧ ((Str.empty ++ a) ++ y_1).length ≤ sizeLine ∧ ∃ y_2 : Str, V.str b = .str y_2 ∧ (((Str.empty ++ a) ++ y_1) ++ y_2).length ≤ sizeLine ∧ Q (.str (((Str.empty ++ a) ++ y_1) ++ y_2)) H1) := fun _ => by
    refine s1 G H env σ _ rel ?_
    cases ea : d env with
    | no => rw [ea] at p; exact p
    | ex q e1 => rw [ea] at p; exact p
    | ok x e1 =>
      rw [ea] at p
      intro G1 H1 v S1 R1 X1 _
      dsimp only at p
      cases z1 : rd e1 x with
      | none => rw [z1] at p; exact p.elim
      | some dx =>
        rw [z1] at p
        dsimp only at p
        cases z2 : gFmt a b dx with
        | none => rw [z2] at p; exact p.elim
        | some r =>
          rw [z2] at p
          unfold gFmt at z2
          split at z2
          · rename_i y
            split at z2
            · rename_i h
              cases z2
              refine .inl ⟨y, (X1.rd R1 z1).str_inv, by omega, y, rfl, by rw [len, e0]; omega, b, rfl, by rw [len, len, e0]; omega, ?_⟩
              exact (Out.post R1 S1 p).val R1.sub (.str _)
            · cases z2
          · cases z2
  exact ⟨a, rfl, by rw [e0]; omega, small ha⟩
end
end Dn

namespace Dn
open PySem PySem.Spec PyProof.Rows L2
/-! comprehensions with two for -/
def comp2L (vs vs1 : List Nat) (g : DG) (t : DT) (it1 : DI) (g1 : DG) (t1 : DT) (e : DE) : List D → List D → Env → RC
  | [], acc, env => .ok acc env
  | d :: r, acc, env => match g d (wipeE env vs) with
    | none => .no
    | some e1 => match t e1 with
      | .ok true e2 => match it1 e2 with
        | .ok ys e3 => match compL vs1 g1 t1 e ys acc e3 with
          | .ok acc2 e4 => comp2L vs vs1 g t it1 g1 t1 e r acc2 e4
          | .no => .no
        | _ => .no
      | .ok false e2 => comp2L vs vs1 g t it1 g1 t1 e r acc e2
      | _ => .no
def dComp2 (vs vs1 : List Nat) (it : DI) (g : DG) (t : DT) (it1 : DI) (g1 : DG) (t1 : DT) (e : DE) : DE := fun env => match it env with
  | .ok xs e0 => match comp2L vs vs1 g t it1 g1 t1 e xs [] e0 with
    | .ok acc e1 => .ok (.val (.lst acc)) (resE env e1 vs)
    | .no => .no
  | .ex q e0 => .ex q e0
  | .no => .no
section
variable {K : PySem.W.Frag} {ct : Nat → Addr} {c : Cf} {W : WX}
theorem wipeE_wipeE {env : Env} {vs vs1 : List Nat} (h : ∀ i, i ∈ vs1 → i ∈ vs) : wipeE (wipeE env vs1) vs = wipeE env vs := by
  apply List.ext_getElem?
  intro j
  simp only [wipeE_get, wipeE_len]
  by_cases hj : j ∈ vs
  · simp only [hj, if_true]
  · have : ¬ j ∈ vs1 := fun z => hj (h j z)
    simp only [hj, this, if_false]
theorem wipe_wipe {σ : L2.St} {vs vs1 : List Nat} (h : ∀ i, i ∈ vs1 → i ∈ vs) : L2.wipe (L2.wipe σ vs1) vs = L2.wipe σ vs := by
  apply List.ext_getElem?
  intro j
  simp only [wipe_get, L2.wipe_length]
  by_cases hj : j ∈ vs
  · simp only [hj, if_true]
  · have : ¬ j ∈ vs1 := fun z => hj (h j z)
    simp only [hj, this, if_false]
theorem wipe_own {σ σ2 : L2.St} {vs : List Nat} (hv : ∀ i, i ∈ vs → i ∉ c.own) (e : L2.wipe σ2 vs = L2.wipe σ vs) (i : Nat) (ho : i ∈ c.own) : σ2[i]? = σ[i]? := by
  have h1 : (L2.wipe σ2 vs)[i]? = (L2.wipe σ vs)[i]? := by rw [e]
  rwa [wipe_get, wipe_get, if_neg (fun z => hv i z ho), if_neg (fun z => hv i z ho)] at h1
theorem wipe_self {σ : L2.St} {vs : List Nat} : L2.wipe (L2.wipe σ vs) vs = L2.wipe σ vs := wipe_wipe fun _ h => h
/-- the inner loop -/
theorem lc_in {J : It} {g : TG} {tt : TT} {te : TE} {vs : List Nat} {dg : DG} {dt : DT} {de : DE} {ys : List Dn.D} {G1 H1 G2 H2 : Hp} {D : Addr} {σ : L2.St} {env2 e' : Env} {acc acc' : List Dn.D} {vacc : List V} {Nx : Hp → Prop}
    (hv : ∀ i, i ∈ vs → i ∉ c.own) (hg : SimGV K ct c vs g dg) (ht : SimT K ct c W0 tt dt) (he : SimE K ct c W0 false te de)
    (hD : H1 D = none) (h0D : c.H0 D = none) (ioD : D ∉ c.io) (nown : ∀ i, i ∈ c.own → σ[i]? ≠ some (some (.ref D))) (IT : ItR K ct J ys G2)
    (t0 : Stp c σ G1 H1 G2 H2) (R0 : Rel K ct c G2 H2 env2 σ) (hD2 : H2 D = some (.lst vacc)) (gD2 : G2 D = none) (rv0 : RVs K ct G2 acc vacc) (ec0 : compL vs dg dt de ys acc env2 = .ok acc' e')
    (hk : ∀ G3 H3 vacc3, Stp c σ G1 H1 G3 H3 → Rel K ct c G3 H3 (wipeE e' vs) (L2.wipe σ vs) → H3 D = some (.lst vacc3) → G3 D = none → RVs K ct G3 acc' vacc3 → Nx H3) :
    ∃ W1 : Nat → Nat → Hp → Prop, (∃ m, W1 0 m H2) ∧ ∀ j k H, W1 j k H →
      (J.stop j H ∧ Nx H) ∨ (J.go j H ∧ ∃ Nx1 : Hp → Prop, (∀ H', Nx1 H' → ∃ k', k' < k ∧ W1 (j + 1) k' H') ∧ ∀ x H', J.yld j H x H' → g x (L2.wipe σ vs) H' fun σ3 H5 => L2.wipe σ3 vs = L2.wipe σ vs ∧ tt σ3 H5 fun b H6 =>
        if b = true then te σ3 H6 fun y H7 => ∃ acc, H7 D = some (.lst acc) ∧ acc.length < sizeLine ∧ Nx1 (upd H7 D (.lst (acc ++ [y]))) else Nx1 H6) := by
  refine ⟨fun i m H3 => ∃ G3 env3 acc3 vacc3, m = ys.length - i ∧ i ≤ ys.length ∧ Same G2 G3 ∧ Stp c σ G1 H1 G3 H3 ∧ Rel K ct c G3 H3 (wipeE env3 vs) (L2.wipe σ vs) ∧ H3 D = some (.lst vacc3) ∧ G3 D = none ∧ RVs K ct G3 acc3 vacc3 ∧
      compL vs dg dt de (ys.drop i) acc3 env3 = .ok acc' e', ⟨ys.length, G2, env2, acc, vacc, by simp, Nat.zero_le _, .refl _, t0, R0.wipe hv, hD2, gD2, rv0, by rw [List.drop_zero]; exact ec0⟩, ?_⟩
  rintro i m H2 ⟨G2', env2, acc, vacc, rfl, hle, s2, t2, R2, hD2, gD2, rv2, ec⟩
  by_cases hlt : i < ys.length
  · refine .inr ⟨IT.go i G2' H2 s2 R2.sub hlt, fun H' => ∃ G3 env3 acc3 vacc3, Same G2 G3 ∧ Stp c σ G1 H1 G3 H' ∧ Rel K ct c G3 H' (wipeE env3 vs) (L2.wipe σ vs) ∧ H' D = some (.lst vacc3) ∧ G3 D = none ∧ RVs K ct G3 acc3 vacc3 ∧ compL vs dg dt de (ys.drop (i + 1)) acc3 env3 = .ok acc' e',
      fun H' ⟨G3, env3, acc3, vacc3, a0, a1, a3, a4, a5, a6, a7⟩ => ⟨ys.length - (i + 1), by omega, G3, env3, acc3, vacc3, rfl, hlt, a0, a1, a3, a4, a5, a6, a7⟩, fun x H' hy => ?_⟩
    obtain ⟨d, G3, hd, gr, rv⟩ := IT.yld i G2' H2 x H' s2 R2.sub hlt hy
    have ed : ys.drop i = d :: ys.drop (i + 1) := by
      have h1 : ys[i] = d := by
        rw [List.getElem?_eq_getElem hlt] at hd; exact Option.some.inj hd
      rw [← h1]; exact List.drop_eq_getElem_cons hlt
    rw [ed] at ec
    unfold compL at ec
    have gD3 : G3 D = none := by
      cases z : G3 D with
      | none => rfl
      | some u =>
        rcases gr.n D u z with y | y
        · rw [gD2] at y; cases y
        · rw [hD2] at y; cases y
    cases eg : dg d (wipeE env2 vs) with
    | none => rw [eg] at ec; cases ec
    | some e1 =>
      rw [eg] at ec
      dsimp only at ec
      refine hg G3 H' (wipeE env2 vs) e1 (L2.wipe σ vs) d x _ (R2.grow gr) rv eg fun σ3 w3 R3 => ?_
      have w3' : L2.wipe σ3 vs = L2.wipe σ vs := by rw [w3]; exact wipe_self
      refine ⟨w3', ?_⟩
      have own3 := wipe_own hv w3'
      have nD3 : ∀ i, i ∈ c.own → σ3[i]? ≠ some (some (.ref D)) := fun i ho hσ => nown i ho (by rw [← own3 i ho]; exact hσ)
      refine ht G3 H' e1 σ3 _ R3 ?_
      cases et : dt e1 with
      | no => rw [et] at ec; cases ec
      | ex q e2 => rw [et] at ec; cases ec
      | ok k e2 =>
        rw [et] at ec
        intro G4 H4 s4 R4
        have hD4 : H4 D = some (.lst vacc) := s4.h D _ (gr.h _ _ hD2) nD3
        have gD4 : G4 D = none := by
          cases z : G4 D with
          | none => rfl
          | some u =>
            rcases s4.n D u z with y | y | ⟨i, y1, y2⟩
            · rw [gD3] at y; cases y
            · rw [gr.h _ _ hD2] at y; cases y
            · exact absurd y2 (nD3 i y1)
        have t4 : Stp c σ G1 H1 G4 H4 := (t2.trans gr.stp).trans (s4.cong own3)
        cases k with
        | false =>
          refine iteF ⟨G4, e2, acc, vacc, (s2.trans gr.g).trans s4.g, t4, ?_, hD4, gD4, rv2.mono (gr.g.trans s4.g), ec⟩
          have := R4.wipe hv
          rwa [w3'] at this
        | true =>
          refine iteT (he G4 H4 e2 σ3 _ R4 ?_)
          dsimp only at ec
          cases ee : de e2 with
          | no => rw [ee] at ec; cases ec
          | ex q e3 => rw [ee] at ec; cases ec
          | ok rvy e3 =>
            rw [ee] at ec
            cases rvy with
            | slot j => cases ec
            | val y =>
              dsimp only at ec
              intro G5 H5 vy s5 R5 ry _
              have hD5 : H5 D = some (.lst vacc) := s5.h D _ hD4 nD3
              have gD5 : G5 D = none := by
                cases z : G5 D with
                | none => rfl
                | some u =>
                  rcases s5.n D u z with y | y | ⟨i, y1, y2⟩
                  · rw [gD4] at y; cases y
                  · rw [hD4] at y; cases y
                  · exact absurd y2 (nD3 i y1)
              have rvs5 := rv2.mono ((gr.g.trans s4.g).trans s5.g)
              cases hlen : decide (acc.length < 1000000) with
              | false => rw [hlen] at ec; cases ec
              | true =>
                rw [hlen] at ec
                have hl := of_decide_eq_true hlen
                refine ⟨vacc, hD5, by rw [← rvs5.len]; exact Nat.lt_of_lt_of_le hl million, G5, e3, acc ++ [y], vacc ++ [vy], ((s2.trans gr.g).trans s4.g).trans s5.g, ?_, ?_, upd_same, gD5, rvs5.append (.cons ry .nil), ec⟩
                · have t5 := t4.trans (s5.cong own3)
                  refine ⟨t5.g, fun q o e hq => ?_, t5.n⟩
                  rw [upd_ne (ne_of_none e hD)]
                  exact t5.h q o e hq
                · have := R5.wipe hv
                  rw [w3'] at this
                  refine Rel.off this (fun i ho hσ => ?_) h0D ioD gD5
                  rw [wipe_get, if_neg (fun z => hv i z ho)] at hσ
                  exact nown i ho hσ
  · have e : i = ys.length := by omega
    subst e
    rw [List.drop_length] at ec
    unfold compL at ec
    cases ec
    exact .inl ⟨IT.stop G2' H2 s2 R2.sub, hk G2' H2 vacc t2 R2 hD2 gD2 rv2⟩
theorem sim_lc2 {wi wi1 : TI} {g g1 : TG} {tt tt1 : TT} {te : TE} {vs vs1 : List Nat} {it it1 : DI} {dg dg1 : DG} {dt dt1 : DT} {de : DE} (hv : ∀ i, i ∈ vs → i ∉ c.own) (hv1 : ∀ i, i ∈ vs1 → i ∈ vs) (hi : SimI K ct c W wi it) (hg : SimGV K ct c vs g dg) (ht : SimT K ct c W0 tt dt)
    (hi1 : SimI K ct c W0 wi1 it1) (hg1 : SimGV K ct c vs1 g1 dg1) (ht1 : SimT K ct c W0 tt1 dt1) (he : SimE K ct c W0 false te de) :
    SimE K ct c W true (tLc2 wi g tt wi1 g1 tt1 te vs vs1) (dComp2 vs vs1 it dg dt it1 dg1 dt1 de) := fun G H env σ Q r p => by
  refine hi G H env σ _ r ?_
  unfold dComp2 at p
  cases ei : it env with
  | no => rw [ei] at p; exact p
  | ex q e => rw [ei] at p; exact p
  | ok xs e0 =>
    rw [ei] at p
    intro G1 H1 J s1 R1 IT
    dsimp only at p
    intro D hD
    have gD : G1 D = none := R1.g0 hD
    have nown : ∀ i, i ∈ c.own → σ[i]? ≠ some (some (.ref D)) := fun i hi hσ => by
      obtain ⟨o, hq⟩ := R1.own_ref hi hσ
      rw [hD] at hq; cases hq
    have h0D : c.H0 D = none := R1.h0 hD
    have ioD : D ∉ c.io := fun z => by obtain ⟨o, ho⟩ := R1.ioH D z; rw [hD] at ho; cases ho
    have R1w := R1.wipe hv
    refine ⟨fun i m H2 => ∃ G2 env2 acc vacc, m = xs.length - i ∧ i ≤ xs.length ∧ Stp c σ G1 H1 G2 H2 ∧ Rel K ct c G2 H2 (wipeE env2 vs) (L2.wipe σ vs) ∧ H2 D = some (.lst vacc) ∧ G2 D = none ∧ RVs K ct G2 acc vacc ∧
        (∃ acc' e', comp2L vs vs1 dg dt it1 dg1 dt1 de (xs.drop i) acc env2 = .ok acc' e' ∧ PostE K ct c W true G H σ Q (.ok (.val (.lst acc')) (resE env e' vs))), ⟨xs.length, G1, e0, [], [], by simp, Nat.zero_le _, ⟨.refl _, fun q o e _ => by rw [upd_ne (ne_of_none e hD)]; exact e, fun _ _ e => .inl e⟩, ?_, upd_same, gD, .nil, ?_⟩, ?_⟩
    · refine Rel.off R1w (fun i ho hσ => ?_) h0D ioD gD
      rw [wipe_get, if_neg (fun z => hv i z ho)] at hσ
      exact nown i ho hσ
    · rw [List.drop_zero]
      cases ec : comp2L vs vs1 dg dt it1 dg1 dt1 de xs [] e0 with
      | no => rw [ec] at p; exact p.elim
      | ok acc' e' => rw [ec] at p; exact ⟨acc', e', rfl, p⟩
    · rintro i m H2 ⟨G2, env2, acc, vacc, rfl, hle, t2, R2, hD2, gD2, rv2, acc', e', ec, pf⟩
      have s2 := t2.g
      by_cases hlt : i < xs.length
      · refine .inr ⟨IT.go i G2 H2 s2 R2.sub hlt, fun H' => ∃ G3 env3 acc3 vacc3, Stp c σ G1 H1 G3 H' ∧ Rel K ct c G3 H' (wipeE env3 vs) (L2.wipe σ vs) ∧ H' D = some (.lst vacc3) ∧ G3 D = none ∧ RVs K ct G3 acc3 vacc3 ∧ comp2L vs vs1 dg dt it1 dg1 dt1 de (xs.drop (i + 1)) acc3 env3 = .ok acc' e',
          fun H' ⟨G3, env3, acc3, vacc3, a1, a3, a4, a5, a6, a7⟩ => ⟨xs.length - (i + 1), by omega, G3, env3, acc3, vacc3, rfl, hlt, a1, a3, a4, a5, a6, acc', e', a7, pf⟩, fun x H' hy => ?_⟩
        obtain ⟨d, G3, hd, gr, rv⟩ := IT.yld i G2 H2 x H' s2 R2.sub hlt hy
        have ed : xs.drop i = d :: xs.drop (i + 1) := by
          have h1 : xs[i] = d := by
            rw [List.getElem?_eq_getElem hlt] at hd; exact Option.some.inj hd
          rw [← h1]; exact List.drop_eq_getElem_cons hlt
        rw [ed] at ec
        unfold comp2L at ec
        have gD3 : G3 D = none := by
          cases z : G3 D with
          | none => rfl
          | some u =>
            rcases gr.n D u z with y | y
            · rw [gD2] at y; cases y
            · rw [hD2] at y; cases y
        cases eg : dg d (wipeE env2 vs) with
        | none => rw [eg] at ec; cases ec
        | some e1 =>
          rw [eg] at ec
          dsimp only at ec
          refine hg G3 H' (wipeE env2 vs) e1 (L2.wipe σ vs) d x _ (R2.grow gr) rv eg fun σ3 w3 R3 => ?_
          have w3' : L2.wipe σ3 vs = L2.wipe σ vs := by rw [w3]; exact wipe_self
          refine ⟨w3', ?_⟩
          have own3 := wipe_own hv w3'
          have nD3 : ∀ i, i ∈ c.own → σ3[i]? ≠ some (some (.ref D)) := fun i ho hσ => nown i ho (by rw [← own3 i ho]; exact hσ)
          refine ht G3 H' e1 σ3 _ R3 ?_
          cases et : dt e1 with
          | no => rw [et] at ec; cases ec
          | ex q e2 => rw [et] at ec; cases ec
          | ok k e2 =>
            rw [et] at ec
            intro G4 H4 s4 R4
            have hD4 : H4 D = some (.lst vacc) := s4.h D _ (gr.h _ _ hD2) nD3
            have gD4 : G4 D = none := by
              cases z : G4 D with
              | none => rfl
              | some u =>
                rcases s4.n D u z with y | y | ⟨i, y1, y2⟩
                · rw [gD3] at y; cases y
                · rw [gr.h _ _ hD2] at y; cases y
                · exact absurd y2 (nD3 i y1)
            have t4 : Stp c σ G1 H1 G4 H4 := (t2.trans gr.stp).trans (s4.cong own3)
            cases k with
            | false =>
              refine iteF ⟨G4, e2, acc, vacc, t4, ?_, hD4, gD4, rv2.mono (gr.g.trans s4.g), ec⟩
              have := R4.wipe hv
              rwa [w3'] at this
            | true =>
              refine iteT (hi1 G4 H4 e2 σ3 _ R4 ?_)
              dsimp only at ec
              cases e1i : it1 e2 with
              | no => rw [e1i] at ec; cases ec
              | ex q e3 => rw [e1i] at ec; cases ec
              | ok ys e3 =>
                rw [e1i] at ec
                dsimp only at ec
                cases ec1 : compL vs1 dg1 dt1 de ys acc e3 with
                | no => rw [ec1] at ec; cases ec
                | ok acc2 e4 =>
                  rw [ec1] at ec
                  dsimp only at ec
                  intro G5 H5 J1 s5 R5 IT1
                  have hD5 : H5 D = some (.lst vacc) := s5.h D _ hD4 nD3
                  have gD5 : G5 D = none := by
                    cases z : G5 D with
                    | none => rfl
                    | some u =>
                      rcases s5.n D u z with y | y | ⟨i, y1, y2⟩
                      · rw [gD4] at y; cases y
                      · rw [hD4] at y; cases y
                      · exact absurd y2 (nD3 i y1)
                  have t5 : Stp c σ G1 H1 G5 H5 := t4.trans (s5.cong own3)
                  refine lc_in (fun i hi => hv i (hv1 i hi)) hg1 ht1 he hD h0D ioD nD3 IT1 (t5.cong fun i ho => (own3 i ho).symm) R5 hD5 gD5 (rv2.mono ((gr.g.trans s4.g).trans s5.g)) ec1 fun G6 H6 vacc6 t6 R6 hD6 gD6 rv6 => ?_
                  refine ⟨G6, e4, acc2, vacc6, t6.cong own3, ?_, hD6, gD6, rv6, ec⟩
                  have := R6.wipe hv
                  rwa [wipeE_wipeE hv1, wipe_wipe hv1, w3'] at this
      · have e : i = xs.length := by omega
        subst e
        rw [List.drop_length] at ec
        unfold comp2L at ec
        cases ec
        refine .inl ⟨IT.stop G2 H2 s2 R2.sub, ?_⟩
        exact pf G2 H2 (.ref D) (s1.trans t2) (r.res (s1.g.trans s2) R2 hv) ⟨vacc, hD2, gD2, rv2⟩ (fun _ q e => by cases e; exact r.back s1 R1 hD)
end
section
variable {X : Cx} {ct : Nat → Addr} {c : Cf} {W : WX}
def JIc (X : Cx) (ct : Nat → Addr) (c : Cf) (W : WX) (d : DI) : TI := fun σ H Rk => ∃ G env, Rel X.K ct c G H env σ ∧ PostI X.K ct c W G H σ Rk (d env)
theorem JI.can {tg iter : Expr} {d : DI} (h : JI X ct c W tg iter d) : PI X tg iter (JIc X ct c W d) := let ⟨_, p, s⟩ := h; ⟨fun pins s0 σ H Q I ⟨G, env, r, q⟩ => p.run pins s0 σ H Q I (s G H env σ Q r q)⟩
theorem je_lc2 {elt tg iter tg1 iter1 : Expr} {ifs ifs1 : List Expr} {scope : Scope} {own : List (Str × Nat)} {vs vs1 : List Nat} {pos : Pos} {it it1 : DI} {g g1 : TG} {dg dg1 : DG} {tt tt1 : TT} {dt dt1 : DT} {de : DE} (hc : X.calm = true) (hN : X.N.Nodup) (hv : vs.all (fun i => !decide (i ∈ c.own)) = true) (hvs : own.map (·.2) = vs) (hv1 : vs1.all (fun i => decide (i ∈ vs)) = true) (ok : blkC X.N X.env.scope scope own = true) (hi : JI X ct c W tg iter it)
    (hg : ∀ (s : Shared) (H : Hp) (C : Addr) (cl : List (Str × Addr)) (fp : List Addr), PG (X.blk s H scope (compEnvC scope cl C X.env) fp) tg g) (sg : SimGV X.K ct c vs g dg)
    (ht : ∀ (s : Shared) (H : Hp) (C : Addr) (cl : List (Str × Addr)) (fp : List Addr), PTs (X.blk s H scope (compEnvC scope cl C X.env) fp) ifs tt) (st : SimT X.K ct c W0 tt dt)
    (hi1 : ∀ (s : Shared) (H : Hp) (C : Addr) (cl : List (Str × Addr)) (fp : List Addr), JI (X.blk s H scope (compEnvC scope cl C X.env) fp) ct c W0 tg1 iter1 it1)
    (hg1 : ∀ (s : Shared) (H : Hp) (C : Addr) (cl : List (Str × Addr)) (fp : List Addr), PG (X.blk s H scope (compEnvC scope cl C X.env) fp) tg1 g1) (sg1 : SimGV X.K ct c vs1 g1 dg1)
    (ht1 : ∀ (s : Shared) (H : Hp) (C : Addr) (cl : List (Str × Addr)) (fp : List Addr), PTs (X.blk s H scope (compEnvC scope cl C X.env) fp) ifs1 tt1) (st1 : SimT X.K ct c W0 tt1 dt1)
    (he : ∀ (s : Shared) (H : Hp) (C : Addr) (cl : List (Str × Addr)) (fp : List Addr), JE (X.blk s H scope (compEnvC scope cl C X.env) fp) ct c W0 false elt de) (hs : ∀ x, foldedSetIterable iter X.env x = pure x := by intro _; rfl) (hs1 : ∀ env x, foldedSetIterable iter1 env x = pure x := by intro _ _; rfl) :
    JE X ct c W true (.ListComp elt [⟨tg, iter, ifs, 0⟩, ⟨tg1, iter1, ifs1, 0⟩] scope pos) (dComp2 vs vs1 it dg dt it1 dg1 dt1 de) := by
  subst hvs
  obtain ⟨wi, p1, s1⟩ := hi
  have hv1' : ∀ i, i ∈ vs1 → i ∈ own.map (·.2) := fun i hi => by simpa using List.all_eq_true.mp hv1 i hi
  refine ⟨_, pe_lc2 (vs1 := vs1) (wi1 := JIc X ct c W0 it1) (te := tCanE X.K ct c W0 false de) hc hN p1 (blkOk_by ok) hv1' hg ht (fun s H C cl fp => (hi1 s H C cl fp).can) hg1 ht1 (fun s H C cl fp => (he s H C cl fp).can) hs hs1, ?_⟩
  refine sim_lc2 (fun i hi => ?_) hv1' s1 sg st (fun G H env σ Rk r p => ⟨G, env, r, p⟩) sg1 st1 sim_canE
  have := List.all_eq_true.mp hv i hi
  simpa using this
theorem js_setLc2 {f : Bool} {i : Nat} {y : Str} {py : Pos} {elt tg iter tg1 iter1 : Expr} {ifs ifs1 : List Expr} {scope : Scope} {own : List (Str × Nat)} {vs vs1 : List Nat} {pos spos : Pos} {it it1 : DI} {g g1 : TG} {dg dg1 : DG} {tt tt1 : TT} {dt dt1 : DT} {de : DE} (hf : decide (i ∈ c.own) = f) (hi0 : i ≠ 0 ∨ f = false) (hc : X.calm = true) (hN : X.N.Nodup) (hv : vs.all (fun i => !decide (i ∈ c.own)) = true) (hvs : own.map (·.2) = vs) (hv1 : vs1.all (fun i => decide (i ∈ vs)) = true) (ok : blkC X.N X.env.scope scope own = true) (hi : JI X ct c W tg iter it)
    (hg : ∀ (s : Shared) (H : Hp) (C : Addr) (cl : List (Str × Addr)) (fp : List Addr), PG (X.blk s H scope (compEnvC scope cl C X.env) fp) tg g) (sg : SimGV X.K ct c vs g dg)
    (ht : ∀ (s : Shared) (H : Hp) (C : Addr) (cl : List (Str × Addr)) (fp : List Addr), PTs (X.blk s H scope (compEnvC scope cl C X.env) fp) ifs tt) (st : SimT X.K ct c W0 tt dt)
    (hi1 : ∀ (s : Shared) (H : Hp) (C : Addr) (cl : List (Str × Addr)) (fp : List Addr), JI (X.blk s H scope (compEnvC scope cl C X.env) fp) ct c W0 tg1 iter1 it1)
    (hg1 : ∀ (s : Shared) (H : Hp) (C : Addr) (cl : List (Str × Addr)) (fp : List Addr), PG (X.blk s H scope (compEnvC scope cl C X.env) fp) tg1 g1) (sg1 : SimGV X.K ct c vs1 g1 dg1)
    (ht1 : ∀ (s : Shared) (H : Hp) (C : Addr) (cl : List (Str × Addr)) (fp : List Addr), PTs (X.blk s H scope (compEnvC scope cl C X.env) fp) ifs1 tt1) (st1 : SimT X.K ct c W0 tt1 dt1)
    (he : ∀ (s : Shared) (H : Hp) (C : Addr) (cl : List (Str × Addr)) (fp : List Addr), JE (X.blk s H scope (compEnvC scope cl C X.env) fp) ct c W0 false elt de)
    (hpn : c.pins.all (fun q => q.1 != i) = true := by rfl) (hy : X.N[i]? = some y := by rfl) (hyl : X.env.scope.names.lookup y = some .local := by rfl) (hsw : swapsWith (.ListComp elt [⟨tg, iter, ifs, 0⟩, ⟨tg1, iter1, ifs1, 0⟩] scope pos) (some (.Name y py)) spos.line X.env = pure true := by exact sw_true rfl rfl rfl (by decide +kernel)) (hs : ∀ x, foldedSetIterable iter X.env x = pure x := by intro _; rfl) (hs1 : ∀ env x, foldedSetIterable iter1 env x = pure x := by intro _ _; rfl) :
    JS X ct c W (.Assign [.Name y py] (.ListComp elt [⟨tg, iter, ifs, 0⟩, ⟨tg1, iter1, ifs1, 0⟩] scope pos) spos) (sSet i (dComp2 vs vs1 it dg dt it1 dg1 dt1 de)) := by
  subst hvs
  obtain ⟨wi, p1, s1⟩ := hi
  have hv1' : ∀ i, i ∈ vs1 → i ∈ own.map (·.2) := fun i hi => by simpa using List.all_eq_true.mp hv1 i hi
  refine ⟨_, ps_setLc2 (i := i) (vs1 := vs1) (wi1 := JIc X ct c W0 it1) (te := tCanE X.K ct c W0 false de) hc hN hy hyl hsw p1 (blkOk_by ok) hv1' hg ht (fun s H C cl fp => (hi1 s H C cl fp).can) hg1 ht1 (fun s H C cl fp => (he s H C cl fp).can) hs hs1, ?_⟩
  have sl := sim_lc2 (K := X.K) (ct := ct) (c := c) (W := W) (vs := own.map (·.2)) (fun i hi => by
    have := List.all_eq_true.mp hv i hi
    simpa using this) hv1' s1 sg st (wi1 := JIc X ct c W0 it1) (fun G H env σ Rk r p => ⟨G, env, r, p⟩) sg1 st1 (sim_canE (K := X.K) (ct := ct) (c := c) (W := W0) (f := false) (d := de))
  cases f with
  | false => exact sim_set (of_decide_eq_false hf) sl.v
  | true => exact sim_setN (of_decide_eq_true hf) (hi0.elim id fun z => nomatch z) hpn sl
end
end Dn

namespace Dn
open PySem PySem.Spec PyProof.Rows L2
/-! errors with a field -/
def clsBody : Stmt → List Stmt
  | .ClassDef _ _ _ b _ _ _ _ _ _ _ => b
  | _ => []
def methOf (c : Stmt) (j : Nat) : Stmt := (clsBody c).getD j (.Pass ⟨0, 0, 0, 0⟩)
theorem funD_of {K : PySem.W.Frag} {x q : Str} {st : Stmt} {f : Addr} {fd : FuncData} (F : FunD K x q (defArgs st) (defBody st) (defScope st) [] [] f fd) : Fun K x q st f fd := by
  obtain ⟨oc, od, dV, kV, doc, pm, an, cdv, ct, osl, e, lk, hcd, hD, hK⟩ := F.ex
  rcases hD with ⟨_, rfl⟩ | ⟨z, _⟩
  · exact ⟨⟨oc, od, kV, doc, pm, an, cdv, ct, osl, e, lk, hcd⟩, F.kp⟩
  · exact absurd rfl z
/-- what an __init__ that keeps its one argument does -/
def spI (C : Addr) (f : Str) : Sp := fun vs H Q _ => ∃ (a : Addr) (v : V), vs = [.ref a, v] ∧ H a = some (exo a C none) ∧ ∀ dx, H dx = none → dx ≠ a → Q .non (upd (upd H dx (exd dx [(f, v)])) a (exo a C (some dx)))
/-- what the top tells of an error class with one field -/
structure XTxtA (K : PySem.W.Frag) (mg : Str → Option Value) (ct : Nat → Addr) (x : Str) (n : Nat) (f : Str) : Prop where
  gC : mg x = some (.ref (ct n))
  ox : OexC K (ct n)
  ini : ∃ (fI : Addr) (fd : FuncData), PySem.W.findIn K (.ref (ct n)) "__init__" = some (some (.ref fI)) ∧ PySem.W.typeIn K (.ref fI) = some (.type "function") ∧ Binds K fd ["self", f] [] ∧
    ∀ (P : Program) (w : World) (base : Heap), FnOk P w K mg base (L2.CX P w) 1 fI fd ["self", f] (spI (ct n) f)
def iniBody (st : Stmt) (f : Str) : Bool := match defBody st with
  | [.Assign [.Attribute (.Name a _) b _] (.Name c _) _] => a == "self" && (b == f && c == f)
  | _ => false
theorem ini_ok {P : Program} {w : World} {K : PySem.W.Frag} {mg : Str → Option Value} {base : Heap} {C fI : Addr} {fd : FuncData} {q f : Str} {st : Stmt} (F : Fun K "__init__" q st fI fd) (S : FnScope ["self", f] ["self", f] (defScope st)) (T : OexC K C) (hno : PySem.W.findIn K (.ref C) f = some none)
    {p1 p2 p3 p4 : Pos} (hb : defBody st = [.Assign [.Attribute (.Name "self" p1) f p2] (.Name f p3) p4]) (h1 : Vis (defScope st) "self") (h2 : Vis (defScope st) f) (hd : (f == ("__debug__" : Str)) = false) (hc : (f == ("__classdict__" : Str)) = false)
    (hsw : ∀ env : PySem.Env, env.scope = defScope st → swapsWith (.Name f p3) (some (.Attribute (.Name "self" p1) f p2)) p4.line env = pure false) :
    FnOk P w K mg base (L2.CX P w) 1 fI fd ["self", f] (spI C f) := by
  refine F.okX (k := 0) S (fun vs H Q E ⟨a, v, e, _⟩ => by rw [e]; rfl) fun cdv A outer s H vs Q E hr h => ?_
  obtain ⟨a, v, rfl, ha, k⟩ := h
  refine ⟨tOst K f (tVar 0) (tVar 1), ?_, ?_⟩
  · rw [hb]
    exact pss_one (ps_ost (pe_var (i := 0) rfl h1) (pe_var (i := 1) rfl h2 hd hc) (hsw _ rfl))
  · exact ⟨v, rfl, .ref a, rfl, a, C, rfl, T, hno, .inl ⟨ha, fun dx h1 h2 => k dx h1 h2⟩⟩
section
variable {X : Cx} {ct : Nat → Addr} {c : Cf} {W : WX} {K : PySem.W.Frag}
def sRaiseA (n : Nat) (f : Str) (a : DE) : DS := fun env => match a env with
  | .ok (.val d) e1 => .ex ⟨n, some (f, d)⟩ e1
  | .ok (.slot _) _ => .no
  | .ex q e1 => .ex q e1
  | .no => .no
theorem js_raiseA {k n : Nat} {x f : Str} {e : Expr} {d : DE} {p pos pos' : Pos} (T : XTxtA X.K X.mg ct x n f) (hc : X.calm = true) (tk : Takes X W) (hr : Room (k + 2) X.A) (he : JE X ct c W false e d) (hg : Gl X x := by rfl) (hdb : (x == ("__debug__" : Str)) = false := by decide)
    (hs : starEach [e] X.env = (false, eval e X.env) :: starEach [] X.env := by rfl) : JS X ct c W (.Raise (some (.Call (.Name x p) [e] [] pos)) none pos') (sRaiseA n f d) := by
  obtain ⟨te, pe, se⟩ := he
  obtain ⟨fI, fd, iC, tI, hb, F⟩ := T.ini
  refine ⟨_, ps_raise hc tk (pmk_oex T.ox iC tI (F X.prog X.w X.base) (hr.mono (by omega)) hb .nil (fun pins σ H s e s' I z => by
    obtain ⟨_, _, _, _, _, _, _, _, _, _, _, _, z⟩ := z
    exact z.elim) hg T.gC (pa_cons pe pa_nil hs) hdb hs rfl), fun G H env σ E r p => ?_⟩
  refine se G H env σ _ r ?_
  unfold sRaiseA at p
  cases ea : d env with
  | no => rw [ea] at p; exact p
  | ex q e1 => rw [ea] at p; exact fun G1 H1 cls dd s R h => p G1 H1 σ cls dd s.g R h
  | ok rv e1 =>
    rw [ea] at p
    intro G1 H1 v1 s1 R1 X1 _
    cases rv with
    | slot i => exact p.elim
    | val dv =>
      refine ⟨show ([v1] : List V).length ≤ 1000 by simp, fun a ha => ?_⟩
      refine ⟨a, v1, rfl, upd_same, fun dx hdx hne => ⟨rfl, dx, [(f, v1)], upd_same, ?_, ?_, ?_⟩⟩
      · rw [upd_ne hne, upd_same]
      · rw [upd_ne hne] at hdx; exact hdx
      · have hdx1 : H1 dx = none := by rw [upd_ne hne] at hdx; exact hdx
        have eH : upd (del (upd (upd (upd H1 a (exo a (ct n) none)) dx (exd dx [(f, v1)])) a (exo a (ct n) (some dx))) a) dx (.xd [(f, v1)]) = upd H1 dx (.xd [(f, v1)]) := by
          funext b
          by_cases hb1 : b = dx
          · rw [hb1, upd_same, upd_same]
          · rw [upd_ne hb1, upd_ne hb1]
            by_cases hb2 : b = a
            · rw [hb2, del_same, ha]
            · rw [del_ne hb2, upd_ne hb2, upd_ne hb1, upd_ne hb2]
        rw [eH]
        have gr : Grow G1 H1 (upd G1 dx (.xd [(f, v1)])) (upd H1 dx (.xd [(f, v1)])) := Grow.new R1.sub hdx1
        exact p _ _ σ _ _ (s1.g.trans gr.g) (R1.grow gr) ⟨rfl, dx, v1, rfl, upd_same, RV.mono gr.g X1⟩
end
/-! the head's facts of such classes -/
def oexB (K : PySem.W.Frag) (C : Addr) : Bool := (match K.lookup C with
  | some ⟨.type "type", _, .cls cd, sl⟩ => (match cd.mro, sl.toList with
    | .ref C' :: bm, [_, _, _, _, some (.builtin n), _] => C' == C && (n == "ValueError.__new__" && (!cd.hasDel && (cd.hasDict && PySem.HandSPX.refsVE bm)))
    | _, _ => false)
  | _ => false) && (He.eqO (PySem.W.findIn K (.ref C) "__setattr__") (some (some (.builtin "object.__setattr__"))) && (decide (PySem.W.subIn K (.ref C) (.type "BaseException") = some true) && (decide (PySem.W.typeIn K (.ref C) = some (.type "type")) && PySem.W.keepIn K (.ref C))))
theorem oexB_ok {K : PySem.W.Frag} {C : Addr} (h : oexB K C = true) : OexC K C := by
  obtain ⟨h1, h2⟩ := He.ba h
  obtain ⟨h2, h3⟩ := He.ba h2
  obtain ⟨h3, h4⟩ := He.ba h3
  obtain ⟨h4, h5⟩ := He.ba h4
  refine ⟨?_, He.eqO_ok h2, of_decide_eq_true h3, of_decide_eq_true h4, h5⟩
  split at h1
  · rename_i dd cd sl ho
    split at h1
    · rename_i C' bm k0 k1 k2 k3 n k5 hm hs
      simp only [Bool.and_eq_true, beq_iff_eq, Bool.not_eq_true'] at h1
      obtain ⟨rfl, rfl, hdel, hdict, ht⟩ := h1
      obtain ⟨nm, bs, mro, ns, qn, hd, sn, sub, ab, col, del⟩ := cd
      dsimp only at hm hdel hdict
      subst hm hdel hdict
      have hsl : sl = #[k0, k1, k2, k3, some (.builtin "ValueError.__new__"), k5] := by
        obtain ⟨l⟩ := sl
        simp only at hs
        rw [hs]
      subst hsl
      exact ⟨nm, qn, ns, bs, bm, sn, sub, ab, col, dd, k0, k1, k2, k3, k5, ho, ht⟩
    · cases h1
  · cases h1
/-- an error class with the field f and an __init__ of its own -/
def oxfB (K : PySem.W.Frag) (x f : Str) : Bool := oexB K (He.ga K x) && (He.eqO (PySem.W.findIn K (.ref (He.ga K x)) f) (some none) && (He.eqO (PySem.W.findIn K (.ref (He.ga K x)) "__init__") (some (some (.ref (He.fAd K (x, some "__init__"))))) && decide (PySem.W.typeIn K (.ref (He.fAd K (x, some "__init__"))) = some (.type "function"))))
/-! a hook with one more Bool -/
def hookE (n : Nat) (fa : List He.Fa) (fn : List He.DefD) (ex : PySem.W.Frag → Bool) : PySem.W.Hook where
  α := He.AlD × Bool
  obs := fun s => (He.obsDG n fa fn s.heap.get?, ex (He.frG s.heap.get? (He.asD s.heap.get? n)))
  val := fun _ => (He.valD fn, true)
  says := fun _ h => ∃ K : PySem.W.Frag, K.In h ∧ He.SaysD fa fn K ∧ ex K = true
  of := fun _ _ e => ⟨_, He.frG_in, (Prod.mk.inj e).1, (Prod.mk.inj e).2⟩
  keeps := fun _ _ _ ⟨K, hK, c⟩ k => ⟨K, PySem.W.Frag.In.keeps hK k, c⟩
def obsE (n : Nat) (fa : List He.Fa) (fn : List He.DefD) (ex : PySem.W.Frag → Bool) (g : Addr → Option Obj) : He.AlD × Bool := (He.obsDG n fa fn g, ex (He.frG g (He.asD g n)))
theorem obsE_eq {n : Nat} {fa : List He.Fa} {fn : List He.DefD} {ex : PySem.W.Frag → Bool} {g : Addr → Option Obj} {s : Shared} (h : ∀ a, g a = s.heap.get? a) : obsE n fa fn ex g = (hookE n fa fn ex).obs s := by
  have e : g = s.heap.get? := funext h
  rw [e] <;> rfl
def ddM (C m : Str) (q : Str) (st : Stmt) : He.DefD := ⟨(C, some m), m, q, defArgs st, defBody st, defScope st, [], []⟩
theorem sw_self {f g : Str} {p1 p2 p3 : Pos} {l : Nat} {env : PySem.Env} : swapsWith (.Name f p3) (some (.Attribute (.Name "self" p1) g p2)) l env = pure false := rfl
theorem iniBody_ok {st : Stmt} {f : Str} (h : iniBody st f = true) : ∃ p1 p2 p3 p4, defBody st = [.Assign [.Attribute (.Name "self" p1) f p2] (.Name f p3) p4] := by
  unfold iniBody at h
  split at h
  · rename_i a p1 b p2 c p3 p4 e
    obtain ⟨h1, h2⟩ := He.ba h
    obtain ⟨h2, h3⟩ := He.ba h2
    have e1 := eq_of_beq h1
    have e2 := eq_of_beq h2
    have e3 := eq_of_beq h3
    subst e1 e2 e3
    exact ⟨p1, p2, p3, p4, e⟩
  · cases h
theorem xtxtA_of {K : PySem.W.Frag} {mg : Str → Option Value} {h : Heap} {fas : List He.Fa} {dfs : List He.DefD} {x f q : Str} {n : Nat} {st : Stmt} (X : K.In h) (G : h.Ns mainGlobals mg) (c : He.SaysD fas dfs K) (i j : Nat) (hi : dfs[i]? = some (ddM x "__init__" q st)) (hj : fas[j]? = some (.glo x)) (hx : exn n = x) (hB : oxfB K x f = true)
    (S : FnScope ["self", f] ["self", f] (defScope st)) (hb : iniBody st f = true) (h1 : Vis (defScope st) "self") (h2 : Vis (defScope st) f) (hd : (f == ("__debug__" : Str)) = false) (hc : (f == ("__classdict__" : Str)) = false)
    (hbi : ∀ (kV doc pm : Value) (an : Option Addr) (cdv ct : Value) (us : List Value), us.length = (["self", f] : List Str).length → bindArgs (PySem.W.fnOf "__init__" q (defArgs st) (defBody st) (defScope st) .none kV doc pm an cdv ct) ⟨us, []⟩ = pure ((["self", f] : List Str).zip us)) : XTxtA K mg (ctK K) x n f := by
  subst hx
  obtain ⟨b1, b2⟩ := He.ba hB
  obtain ⟨b2, b3⟩ := He.ba b2
  obtain ⟨b3, b4⟩ := He.ba b3
  obtain ⟨fd, F⟩ := c.def_ i hi
  obtain ⟨p1, p2, p3, p4, eb⟩ := iniBody_ok hb
  have F2 : FunD K "__init__" q (defArgs st) (defBody st) (defScope st) [] [] (He.fAd K (exn n, some "__init__")) fd := F
  exact ⟨He.glo_ok X G (c.fact j hj), oexB_ok b1, _, fd, He.eqO_ok b3, of_decide_eq_true b4, F2.bindsN hbi, fun P w base => ini_ok (funD_of F2) S (oexB_ok b1) (He.eqO_ok b2) eb h1 h2 hd hc (fun env _ => sw_self)⟩
end Dn

namespace Dn
open PySem PySem.Spec PyProof.Rows L2
/-! sorted of pairs of ints -/
def leP (p q : Int × Int) : Bool := decide (p.1 < q.1) || (decide (p.1 = q.1) && decide (p.2 ≤ q.2))
def insP (p : Int × Int) : List (Int × Int) → List (Int × Int)
  | [] => [p]
  | q :: r => if leP p q then p :: q :: r else q :: insP p r
def sortP : List (Int × Int) → List (Int × Int)
  | [] => []
  | p :: r => insP p (sortP r)
theorem leP_iff {p q : Int × Int} : leP p q = true ↔ p.1 < q.1 ∨ (p.1 = q.1 ∧ p.2 ≤ q.2) := by unfold leP; simp
theorem leP_total (p q : Int × Int) : leP p q = true ∨ leP q p = true := by rw [leP_iff, leP_iff]; omega
theorem leP_trans {p q r : Int × Int} (h1 : leP p q = true) (h2 : leP q r = true) : leP p r = true := by rw [leP_iff] at *; omega
theorem leP_anti {p q : Int × Int} (h1 : leP p q = true) (h2 : leP q p = true) : p = q := by
  rw [leP_iff] at *
  obtain ⟨a, b⟩ := p
  obtain ⟨c, d⟩ := q
  simp only at h1 h2
  have : a = c := by omega
  have : b = d := by omega
  subst_vars
  rfl
theorem insP_perm (p : Int × Int) : ∀ l, (insP p l).Perm (p :: l)
  | [] => .refl _
  | q :: r => by
    unfold insP
    split
    · exact .refl _
    · exact ((insP_perm p r).cons q).trans (.swap ..)
theorem sortP_perm : ∀ l, (sortP l).Perm l
  | [] => .refl _
  | p :: r => (insP_perm p _).trans ((sortP_perm r).cons p)
theorem insP_sorted (p : Int × Int) : ∀ {l : List (Int × Int)}, l.Pairwise (fun a b => leP a b = true) → (insP p l).Pairwise (fun a b => leP a b = true)
  | [], _ => by simp [insP]
  | q :: r, h => by
    obtain ⟨h1, h2⟩ := List.pairwise_cons.mp h
    unfold insP
    split
    · rename_i hl
      exact List.pairwise_cons.mpr ⟨fun x hx => by
        rcases List.mem_cons.mp hx with rfl | hx
        · exact hl
        · exact leP_trans hl (h1 x hx), h⟩
    · rename_i hl
      refine List.pairwise_cons.mpr ⟨fun x hx => ?_, insP_sorted p h2⟩
      rcases List.mem_cons.mp ((insP_perm p r).mem_iff.mp hx) with rfl | hx
      · exact (leP_total x q).resolve_left hl
      · exact h1 x hx
theorem sortP_sorted : ∀ l, (sortP l).Pairwise (fun a b => leP a b = true)
  | [] => .nil
  | p :: r => insP_sorted p (sortP_sorted r)
theorem sortP_uniq {a b : List (Int × Int)} (p : a.Perm b) (ha : a.Pairwise (fun a b => leP a b = true)) (hb : b.Pairwise (fun a b => leP a b = true)) : a = b :=
  List.Perm.eq_of_pairwise (fun _ _ _ _ h1 h2 => leP_anti h1 h2) ha hb p
def pyP (p : Int × Int) : PyData := .tuple [.int p.1, .int p.2]
theorem le_pyP (p q : Int × Int) : PySem.W.dataLe false pyP p q = leP p q := by
  show (!PyProof.Rows.lexLt itemOrd (PySem.W.keyToks (pyP q)) (PySem.W.keyToks (pyP p))) = leP p q
  have e : ∀ p : Int × Int, PySem.W.keyToks (pyP p) = [.inl 1, .inl p.1, .inl 1, .inl p.2, .inl 0] := fun p => by simp [pyP, PySem.W.keyToks, PySem.W.keyToksAll]
  rw [e, e]
  unfold leP
  rw [PyProof.Rows.lex_self, PyProof.Rows.lex_cons, PyProof.Rows.lex_self, PyProof.Rows.lex_cons, PyProof.Rows.lex_self]
  have b : ∀ i j : Int, itemOrd.blt (.inl i) (.inl j) = decide (i < j) := fun i j => rfl
  have z : PyProof.Rows.lexLt itemOrd [] [] = false := rfl
  rw [b, b, b, b, z]
  by_cases h1 : p.1 < q.1
  · have : ¬ q.1 < p.1 := by omega
    simp [h1, this]
  · by_cases h2 : q.1 < p.1
    · have : ¬ p.1 = q.1 := by omega
      simp [h1, h2, this]
    · have : p.1 = q.1 := by omega
      by_cases h3 : q.2 < p.2
      · have h4 : ¬ p.2 ≤ q.2 := by omega
        simp [h1, h2, this, h3, h4]
      · have h4 : p.2 ≤ q.2 := by omega
        simp [h1, h2, this, h3, h4]
def pairD (p : Int × Int) : D := .tup [.int p.1, .int p.2]
def unPairs : List D → Option (List (Int × Int))
  | [] => some []
  | .tup [.int a, .int b] :: r => (unPairs r).map ((a, b) :: ·)
  | _ => none
theorem unPairs_eq : ∀ {xs : List D} {ps : List (Int × Int)}, unPairs xs = some ps → xs = ps.map pairD
  | [], ps, h => by cases h; rfl
  | x :: xs, ps, h => by
    unfold unPairs at h
    split at h
    · rename_i z; cases z
    · rename_i a b r z
      cases z
      cases e : unPairs xs with
      | none => rw [e] at h; cases h
      | some qs => rw [e] at h; cases h; rw [unPairs_eq e]; rfl
    · cases h
theorem unPairs_map (ps : List (Int × Int)) : unPairs (ps.map pairD) = some ps := by
  induction ps with
  | nil => rfl
  | cons p r ih => show (unPairs (r.map pairD)).map _ = _; rw [ih]; rfl
section
variable {X : Cx} {ct : Nat → Addr} {c : Cf} {W : WX} {K : PySem.W.Frag}
def rSortedP (K : PySem.W.Frag) : List V → Hp → VK → Prop := fun vs H Q => ∃ (a : Addr) (bs : List ((Int × Int) × V)), vs = [.ref a] ∧ SqL K H a (bs.map (·.2)) ∧ (∀ b ∈ bs, Dp K H b.2 (pyP b.1)) ∧
  ∀ (q : Addr) (bs' : List ((Int × Int) × V)), bs'.Perm bs → (bs'.map (·.1)).Pairwise (fun a b => leP a b = true) → H q = none → Q (.ref q) (upd H q (.lst (bs'.map (·.2))))
theorem each_of {α β γ : Type} {F : α → β → Prop} {R : γ → α × β → Prop} : True := trivial
theorem each_vals {H : Hp} {bs : List ((Int × Int) × V)} {us : List Value} (r : Vals (bs.map (·.2)) us) : PySem.W.EachIs (fun (u : Value) (b : (Int × Int) × V) => RelV b.2 u) us bs := by
  induction bs generalizing us with
  | nil => cases r; exact .nil
  | cons b bs ih => cases r with
    | cons h t => exact .cons h (ih t)
theorem each_back {us : List Value} {bs : List ((Int × Int) × V)} (h : PySem.W.EachIs (fun (u : Value) (b : (Int × Int) × V) => RelV b.2 u) us bs) : Vals (bs.map (·.2)) us := by
  induction h with
  | nil => exact .nil
  | cons h t ih => exact .cons h ih
theorem each_reads {H : Hp} {bs : List ((Int × Int) × V)} {us : List Value} {pins : List (Addr × Obj)} {σ : L2.St} {s : Shared} (I : Inv X pins σ H s) (hd : ∀ b ∈ bs, Dp X.K H b.2 (pyP b.1)) (r : Vals (bs.map (·.2)) us) :
    PySem.W.EachIs (fun v (b : (Int × Int) × V) => ∃ as, Reads s.heap v (pyP b.1) as) us bs := by
  induction bs generalizing us with
  | nil => cases r; exact .nil
  | cons b bs ih => cases r with
    | cons h t => exact .cons (Dp.reads I _ _ _ (hd b (by simp)) h) (ih (fun b hb => hd b (List.mem_cons_of_mem _ hb)) t)
theorem cr_sortedP (hu : X.A.units + 65 < cLine) : CallR X (.builtin "sorted") (rSortedP X.K) := by
  intro pins s σ H vs us Q I r h
  obtain ⟨a, bs, rfl, hs, hd, q⟩ := h
  obtain ⟨its, rv, hl, hz⟩ := I.list hs
  rw [Vals.ref1 r]
  have hlen : bs.length ≤ sizeLine := by rw [List.length_map] at hz; exact hz
  refine PySem.W.sorted_data (enc := fun b : (Int × Int) × V => pyP b.1) (R := fun (u : Value) (b : (Int × Int) × V) => RelV b.2 u) hl.isList (each_vals (H := H) rv) (each_reads I hd rv) (fun d hd d' hd' => ?_) (.inl fun d hd => ?_) hlen (fun b _ => ?_) fun out ho eo => ?_
  · obtain ⟨b, _, rfl⟩ := List.mem_map.mp hd
    obtain ⟨b', _, rfl⟩ := List.mem_map.mp hd'
    simp [pyP, PySem.W.alike, PySem.W.alikeAll]
  · obtain ⟨b, _, rfl⟩ := List.mem_map.mp hd
    exact ⟨_, _, rfl⟩
  · have : (pyP b.1).depth ≤ 4 := by simp [pyP, PyData.depth, PyData.depthAll]
    omega
  · obtain ⟨ep, he'⟩ := PyProof.Rows.sortedAll_at s.heap its out.toArray
    have pm := List.mergeSort_perm bs (PySem.W.dataLe false fun b : (Int × Int) × V => pyP b.1)
    have rv' := each_back eo
    have hl2 : ((bs.mergeSort (PySem.W.dataLe false fun b : (Int × Int) × V => pyP b.1)).map (·.2)).length ≤ sizeLine := by rw [List.length_map, pm.length_eq]; exact hlen
    refine ⟨.ref _, upd H (s.heap.objs.size + 1) (.lst ((bs.mergeSort (PySem.W.dataLe false fun b : (Int × Int) × V => pyP b.1)).map (·.2))), I.laid (t' := s.toks) (fun _ _ => PyProof.Rows.sortedAll_old) (Nat.le_succ _) ⟨hl2, out, ep, rv', he'⟩, rfl, q _ _ pm ?_ (I.hok.fresh (Nat.le_succ _))⟩
    refine List.pairwise_map.mpr ((PySem.W.sort_pairwise (PySem.W.sortLe_total _ _ _) bs).imp fun {x y} h => ?_)
    rw [← le_pyP]
    exact h
def bSortedA : List D → Option D
  | [.lst xs] => match unInts xs with
    | some ns => some (.lst ((sortI ns).map D.int))
    | none => (unPairs xs).map fun ps => .lst ((sortP ps).map pairD)
  | _ => none
theorem RVs.pairs {G H : Hp} (s : Same G H) : ∀ {ps : List (Int × Int)} {vs : List V}, RVs K ct G (ps.map pairD) vs → ∀ b ∈ ps.zip vs, Dp K H b.2 (pyP b.1) ∧ RV K ct G (pairD b.1) b.2
  | [], _, .nil, b, h => by simp at h
  | p :: ps, v :: vs, .cons r t, b, h => by
    rw [List.zip_cons_cons] at h
    rcases List.mem_cons.mp h with rfl | h
    · exact ⟨toPy_dp s r rfl, r⟩
    · exact RVs.pairs s t b h
theorem rvs_of {G : Hp} : ∀ {bs : List ((Int × Int) × V)}, (∀ b ∈ bs, RV K ct G (pairD b.1) b.2) → RVs K ct G ((bs.map (·.1)).map pairD) (bs.map (·.2))
  | [], _ => .nil
  | b :: bs, h => .cons (h b (by simp)) (rvs_of fun x hx => h x (List.mem_cons_of_mem _ hx))
theorem call_sortedA (hu : X.A.units + 65 < cLine) : CallR X (.builtin "sorted") (fun xs H Q => rSortedI X.K xs H Q ∨ rSortedP X.K xs H Q) := CallR.or cr_sortedI (cr_sortedP hu)
theorem fs_sortedA : FnS K ct true (fun xs H Q => rSortedI K xs H Q ∨ rSortedP K xs H Q) bSortedA := fun G H ds vs d Q s r e o => by
  unfold bSortedA at e
  split at e
  · rename_i xs
    cases z : unInts xs with
    | some ns =>
      rw [z] at e
      exact .inl (fs_sorted G H _ vs d Q s r (by unfold bSorted; dsimp only; rw [z]; exact e) o)
    | none =>
      rw [z] at e
      right
      dsimp only at e
      cases z2 : unPairs xs with
      | none => rw [z2] at e; cases e
      | some ps =>
        rw [z2] at e
        cases e
        obtain ⟨v, rfl, q0⟩ := rds1 r
        obtain ⟨p, vs, rfl, hp, rv⟩ := q0.lst_inv s
        rw [unPairs_eq z2] at rv
        have hl : ps.length = vs.length := by have := rv.len; rwa [List.length_map] at this
        have hpr := RVs.pairs s rv
        refine ⟨p, ps.zip vs, rfl, ?_, fun b hb => (hpr b hb).1, fun q bs' pm sr hq => ?_⟩
        · rw [List.map_snd_zip (by omega)]; exact .inl (.inl hp)
        · have e1 : bs'.map (·.1) = sortP ps := by
            refine sortP_uniq ?_ sr (sortP_sorted ps)
            have h1 := pm.map (·.1)
            rw [List.map_fst_zip (by omega)] at h1
            exact h1.trans (sortP_perm ps).symm
          refine o.newL s hq ?_
          rw [← e1]
          exact rvs_of fun b hb => (hpr b (pm.mem_iff.mp hb)).2
  · cases e
end
end Dn

namespace Dn
open PySem PySem.Spec PyProof.Rows L2
/-! dicts with tuple keys: {t: v}, list(d.items()), list(d.values()) -/
section
variable {X : Cx} {ct : Nat → Addr} {c : Cf} {W : WX} {K : PySem.W.Frag}
def tDispT (tk tv : TE) : TE := fun σ H Q => ∀ p, H p = none → tPairs [(tk, tv)] σ (upd H p (.dT [])) fun ps H2 => H2 p = some (.dT []) ∧ ∃ (b : Addr) (k : List Key) (v : V), ps = [(.ref b, v)] ∧ H2 b = some (.tup (k.map kV)) ∧ Q (.ref p) (upd H2 p (.dT [(k, v)]))
theorem pe_dispT {pos : Pos} {k v : Expr} {tk tv : TE} (hu : X.A.units + 1 < cLine) (hk : PE X k tk) (hv : PE X v tv) : PE X (.Dict [some k] [v] pos) (tDispT tk tv) := by
  refine ⟨fun pins s σ H Q I q => ?_⟩
  have hn := I.hok.fresh (Nat.le_refl s.heap.objs.size)
  have I1 := I.laid (a := s.heap.objs.size) (o := .dT []) (h' := s.heap.push { cls := .type "dict", data := .dict #[] }) (t' := s.toks) (fun _ _ q => Heap.get?_push_of_some _ q) (Nat.le_refl _) (dt_empty s.heap I.big)
  have hP : PPs X pos [some k] [v] [(tk, tv)] := pps_cons hk hv pps_nil
  have hz := zip_pairTrees [some k] [v] X.env pos rfl rfl
  have hl := pairTrees_length [some k] [v] X.env pos rfl rfl
  rw [arm_eval_Dict, hz, dictDisplay_pairs (pairTrees [some k] [v] X.env pos) (by intro e; rw [e] at hl; cases hl) (by rw [hl]; exact Nat.lt_of_lt_of_le (Nat.lt_succ_self 1) (by decide))]
  refine wpAny_bind (wpAny_standAt (wpAny_bind (wpAny_subDictH (knd := tupleKind (mixKind X.prog X.w)) (Q := fun d s' => wpAny (model X.prog X.w) X.A (pure (Value.ref d)) _ X.xe s') (show X.A.units < cLine by omega) (by rw [hl]; exact Nat.le_trans (Nat.le_refl 1) (by decide)) ?_)))
  refine thn (hP.run pins _ σ _ _ I1 (q _ hn)) fun ws s2 ⟨ps, H2, I2, rel, e, b, kk, v, ep, hb, q2⟩ => ?_
  subst ep
  obtain ⟨z, hd, xs0, r0, dd⟩ := dt_of I2.hok e
  cases r0
  cases rel with
  | @cons a w as bs h t =>
    cases t
    obtain ⟨w1, w2⟩ := w
    obtain ⟨r1, r2⟩ := h
    obtain rfl : w1 = Value.ref b := r1
    refine ⟨[(kk, b, w2)], ⟨rfl, rfl, key_of I2.hok hb, trivial⟩, dd, fun h' tk dd' hs => wpAny_pure ⟨.ref s.heap.objs.size, _, ?_, rfl, q2⟩⟩
    obtain ⟨q, es, ep, hq, h2, h3, h4, _, h5⟩ := dd'
    have hz : ([(kk, v)] : List (List Key × V)).length ≤ sizeLine := by rw [sizeLine_eq]; exact (by decide : 1 ≤ 16777216)
    refine d_write I2 (by rw [e]; exact True.intro) hs ⟨q, hq⟩ ⟨hz, hd, _, (KT.put (xs := []) .nil kk hb r2).keeps fun c ys ec => ?_, q, es, ep, hq, h2, h3, h4, h5⟩
    rw [upd_ne (ne_of ec e (fun z => nomatch z))]
    exact ec
def dDictT (k v : DE) : DE := fun env => match k env with
  | .ok (.val dk) e1 => match v e1 with
    | .ok (.val dv) e2 => match dk with
      | .tup ks => match keysD ks with
        | some kk => .ok (.val (.dT [(kk, dv)])) e2
        | none => .no
      | _ => .no
    | .ok _ _ => .no
    | .ex q e2 => .ex q e2
    | .no => .no
  | .ok _ _ => .no
  | .ex q e1 => .ex q e1
  | .no => .no
theorem je_dictT {pos : Pos} {k v : Expr} {dk dv : DE} (hu : X.A.units + 1 < cLine) (hk : JE X ct c W false k dk) (hv : JE X ct c W false v dv) : JE X ct c W true (.Dict [some k] [v] pos) (dDictT dk dv) := by
  obtain ⟨tk, p1, s1⟩ := hk
  obtain ⟨tv, p2, s2⟩ := hv
  refine ⟨_, pe_dispT hu p1 p2, fun G H env σ Q rel p => fun q hq => ?_⟩
  have g1 := Grow.out (o := .dT []) rel.sub hq
  have gq : G q = none := rel.sub.free hq
  have R1 := rel.grow g1
  have nown : ∀ i, i ∈ c.own → σ[i]? ≠ some (some (.ref q)) := fun i hi hσ => by
    obtain ⟨o, ho⟩ := rel.own_ref hi hσ
    rw [hq] at ho; cases ho
  show tk σ _ _
  refine s1 G _ env σ _ R1 ?_
  unfold dDictT at p
  cases ea : dk env with
  | no => rw [ea] at p; exact p
  | ex x e1 => rw [ea] at p; exact fun G' H' cls dd s R h => p G' H' cls dd (g1.stp.trans s) R h
  | ok rk e1 =>
    rw [ea] at p
    intro G2 H2 vk S2 R2 X2 _
    cases rk with
    | slot i => exact p.elim
    | val dkv =>
      dsimp only at p
      refine s2 G2 H2 e1 σ _ R2 ?_
      cases eb : dv e1 with
      | no => rw [eb] at p; exact p
      | ex x e2 => rw [eb] at p; exact fun G' H' cls dd s R h => p G' H' cls dd ((g1.stp.trans S2).trans s) R h
      | ok rv e2 =>
        rw [eb] at p
        intro G3 H3 vv S3 R3 X3 _
        cases rv with
        | slot i => exact p.elim
        | val dvv =>
          cases dkv with
          | tup ks =>
            dsimp only at p
            cases ek : keysD ks with
            | none => rw [ek] at p; exact p.elim
            | some kk =>
              rw [ek] at p
              dsimp only at p
              have X2' : RV X.K ct G3 (.tup ks) vk := RV.mono S3.g X2
              have X3' : RV X.K ct G3 dvv vv := X3
              cases X2' with
              | @tup b _ us hb ru =>
                have S := (S2.trans S3)
                have hH2 : H3 q = some (.dT []) := S.h q _ upd_same nown
                have hG2 : G3 q = none := by
                  cases z : G3 q with
                  | none => rfl
                  | some u =>
                    rcases S.n q u z with y | y | ⟨i, y1, y2⟩
                    · rw [gq] at y; cases y
                    · rw [upd_same] at y; cases y
                    · exact absurd y2 (nown i y1)
                have hbu : H3 b = some (.tup (kk.map kV)) := by rw [R3.sub _ _ hb, keysD_rv ru ek]
                refine ⟨hH2, b, kk, vv, rfl, hbu, ?_⟩
                refine p G3 _ (.ref q) ⟨(g1.stp.trans S).g, fun a o ho hn => ?_, fun a o ho => ?_⟩ ?_ ⟨_, upd_same, hG2, .cons X3' .nil⟩ (fun _ a e => by cases e; exact hq)
                · rw [upd_ne (fun e => by rw [e, hq] at ho; cases ho)]
                  exact (g1.stp.trans S).h a o ho hn
                · exact (g1.stp.trans S).n a o ho
                · exact Rel.off R3 nown (rel.h0 hq) (fun z => by obtain ⟨o, ho⟩ := rel.ioH q z; rw [hq] at ho; cases ho) hG2
          | _ => exact p.elim
/-! views -/
theorem meetsValues {prog : Program} {w : World} {d : Addr} {es : Array DictEntry} {ep : Nat} (hd : (d == sysModules) = false) :
    MeetsIn prog w (Builtin.«dict.values» ⟨[.ref d], []⟩) (fun _ R s => DT.Raw s.heap d es ep ∧
      R (.ok (.ret (.ref s.heap.objs.size))) { s with heap := s.heap.push { cls := .type "dict_values", data := .fields #[.ref d] } }) :=
  .of_wp fun A R s ⟨hm, h⟩ => by
    refine wpAny_bind ?_
    unfold Builtin.Dict.noArgs
    refine wpAny_bind (wpAny_notOrdered_dict hm.typeIs ?_)
    show wpAny _ _ (pure d) _ _ s
    refine wpAny_pure ?_
    show wpAny _ _ (Builtin.Dict.showsAll d >>= _) _ _ s
    unfold Builtin.Dict.showsAll
    rw [if_neg (by rw [hd]; exact Bool.false_ne_true)]
    refine wpAny_bind (wpAny_pure ?_)
    exact wpAny_bind (wpAny_newObj_type (wpAny_pure ⟨_, rfl, h⟩))
theorem callValues {prog : Program} {w : World} {A : Around} {E : Value → Shared → Prop} {s : Shared} {d : Addr} {es : Array DictEntry} {ep : Nat} {Q : Value → Shared → Prop} (hd : (d == sysModules) = false) (hm : DT.Raw s.heap d es ep)
    (h : Q (.ref s.heap.objs.size) { s with heap := s.heap.push { cls := .type "dict_values", data := .fields #[.ref d] } }) : wpAny (model prog w) A (call (.builtin "dict.values") [.ref d]) Q E s :=
  call_meetsIn PySem.F.slot_dict_values hm.typeIs PySem.F.entry_dict_values (PySem.F.args_dict_values_1 _) (meetsValues (es := es) (ep := ep) hd) ⟨hm, h⟩
def valuesO (p d : Addr) : HO := .ext fun h => h.IsValuesView p d
theorem valuesO_ok {P : Program} {w : World} {H : Hp} {h : Heap} {p d : Addr} (e : h.get? p = some { cls := .type "dict_values", data := .fields #[.ref d] }) : ObjOk P w H h p (valuesO p d) :=
  ⟨⟨_, e, rfl, rfl⟩, ⟨_, e⟩, fun h1 h2 x k => let ⟨o, ho, r⟩ := x; ⟨o, k o ho, r⟩⟩
def rValuesT : V → List V → Hp → VK → Prop := fun x xs H Q => ∃ (a : Addr) (kvs : List (List Key × V)), x = .ref a ∧ xs = [] ∧ H a = some (.dT kvs) ∧ ∀ p, H p = none → Q (.ref p) (upd H p (valuesO p a))
theorem mt_valuesT : MtR X "dict.values" rValuesT := by
  intro pins s σ H x xs v us Q I rx rxs h
  obtain ⟨a, kvs, rfl, rfl, ha, q⟩ := h
  cases rx
  cases rxs
  obtain ⟨z, hd, xs', rel, o, es, ep, ho, hx, hdat, _⟩ := dt_of I.hok ha
  refine callValues (es := es) (ep := ep) hd ⟨o, ho, hx, hdat⟩ ?_
  have hf : H s.heap.objs.size = none := I.hok.fresh (Nat.le_refl _)
  exact ⟨.ref s.heap.objs.size, upd H s.heap.objs.size (valuesO s.heap.objs.size a), I.laid (t' := s.toks) (fun b u e => Heap.get?_push_of_some _ e) (Nat.le_refl _) (valuesO_ok (Heap.get?_push_size _ rfl)), rfl, q _ hf⟩
/-! list(..) of the views -/
def rListVal : List V → Hp → VK → Prop := fun xs H Q => ∃ (p a : Addr) (kvs : List (List Key × V)), xs = [.ref p] ∧ H p = some (valuesO p a) ∧ H a = some (.dT kvs) ∧ ∀ l, H l = none → Q (.ref l) (upd H l (.lst (kvs.map (·.2))))
theorem cr_listVal (hc : X.calm = true) : CallR X (.type "list") rListVal := by
  intro pins s σ H xs us Q I rx h
  obtain ⟨p, a, kvs, rfl, hp, ha, q⟩ := h
  rw [Vals.ref1 rx]
  have view : s.heap.IsValuesView p a := (show ObjOk X.prog X.w H s.heap p (valuesO p a) from I.hok p _ hp).1
  obtain ⟨hz, hs0, vs, kt, hdo⟩ := dt_of I.hok ha
  obtain ⟨es, ep, raw, hsz, hes⟩ := hdo.raw
  have lk : kvs.length = vs.length := Paired.length kt
  refine PySem.W.kdl_call (KdlSrc.rawValues (r := p) (d := a) (es := es) (ep := ep)) (I.ok.hd hc) ⟨view, raw⟩ (by omega) fun h' tk acc c hk hS hI => ?_
  have hn : H s.heap.objs.size = none := I.hok.fresh (Nat.le_refl _)
  have rel : Vals (kvs.map (·.2)) acc.toList := by
    obtain ⟨h1, h2⟩ := hI
    refine vals_by (by rw [List.length_map, lk, ← hsz, ← h1, Array.length_toList]) fun i v u e1 e2 => ?_
    rw [List.getElem?_map] at e1
    obtain ⟨kx, ek, ev⟩ := Option.map_eq_some_iff.mp e1
    obtain ⟨hi, e3⟩ := h2 i u (by rw [← Array.getElem?_toList]; exact e2)
    obtain ⟨q, g1, g2, _, g3⟩ := LiI.paired_get kt ek
    obtain ⟨y, y1, _, y2, _⟩ := hes i hi
    rw [g1] at y1
    cases y1
    subst ev e3
    rw [y2]
    exact g3
  have hlen : (kvs.map (·.2)).length ≤ sizeLine := by rw [List.length_map]; exact hz
  exact ⟨.ref _, _, I.laid (o := .lst (kvs.map (·.2))) (t' := tk) hk (Nat.le_refl _) ⟨hlen, acc.toList, c, rel, by rw [Array.toArray_toList]; exact hS⟩, rfl, q _ hn⟩
/-- tuples laid at their addresses -/
def putG : Hp → List Addr → List (List V) → Hp
  | H, a :: as, p :: ys => putG (upd H a (.tup p)) as ys
  | H, _, _ => H
theorem putG_off {b : Addr} : ∀ (as : List Addr) (ys : List (List V)) (H : Hp), b ∉ as → putG H as ys b = H b
  | [], _, _, _ => rfl
  | _ :: _, [], _, _ => rfl
  | a :: as, p :: ys, H, h => by
    show putG (upd H a (.tup p)) as ys b = H b
    rw [putG_off as ys _ (fun z => h (List.mem_cons_of_mem _ z)), upd_ne (fun z => h (by rw [z]; exact List.mem_cons_self))]
theorem putG_at : ∀ (as : List Addr) (ys : List (List V)) (H : Hp), as.length = ys.length → as.Nodup → Paired (fun (t : Addr) (p : List V) => putG H as ys t = some (.tup p)) as ys
  | [], [], _, _, _ => .nil
  | [], _ :: _, _, h, _ => by cases h
  | _ :: _, [], _, h, _ => by cases h
  | a :: as, p :: ys, H, h, hn => by
    have hn' := List.nodup_cons.mp hn
    have ih := putG_at as ys (upd H a (.tup p)) (Nat.succ.inj h) hn'.2
    refine .cons ?_ ih
    show putG (upd H a (.tup p)) as ys a = some (.tup p)
    rw [putG_off as ys _ hn'.1, upd_same]
/-- list(d.items()): ys the pairs' items -/
def rListIt : List V → Hp → VK → Prop := fun xs H Q => ∃ (p a : Addr) (kvs : List (List Key × V)), xs = [.ref p] ∧ H p = some (L2.DX.itemsO p a) ∧ H a = some (.dT kvs) ∧
  ∀ (H' : Hp) (l : Addr) (ts : List Addr) (ys : List (List V)), (∀ b o, H b = some o → H' b = some o) → H l = none → H' l = some (.lst (ts.map V.ref)) → (∀ t ∈ ts, H t = none) → Paired (fun (t : Addr) (y : List V) => H' t = some (.tup y)) ts ys →
    Paired (fun (y : List V) (kv : List Key × V) => ∃ b, y = [.ref b, kv.2] ∧ H b = some (.tup (kv.1.map kV))) ys kvs → Q (.ref l) H'
theorem mapP2 {α β γ : Type} {F : α → β → Prop} {g : β → γ} {R : γ → α → Prop} (h : ∀ x y, F x y → R (g y) x) : ∀ {xs : List α} {ys : List β}, Paired F xs ys → Paired R (ys.map g) xs
  | _, _, .nil => .nil
  | _, _, .cons r t => .cons (h _ _ r) (mapP2 h t)
theorem cr_listIt (hc : X.calm = true) : CallR X (.type "list") rListIt := by
  intro pins s σ H xs us Q I rx h
  obtain ⟨p, a, kvs, rfl, hp, ha, q⟩ := h
  rw [Vals.ref1 rx]
  have view : s.heap.IsItemsView p a := (show ObjOk X.prog X.w H s.heap p (L2.DX.itemsO p a) from I.hok p _ hp).1
  obtain ⟨hz, hs0, vs, kt, hdo⟩ := dt_of I.hok ha
  obtain ⟨es, ep, raw, hsz, hes⟩ := hdo.raw
  have lk : kvs.length = vs.length := Paired.length kt
  refine PySem.W.dil_call (es := es) (ep := ep) (I.ok.hd hc) view raw (by omega) fun h' tk acc c as hk hS hl hG hacc => ?_
  -- the pairs
  have hys : ∃ ys : List (List V), ys.length = kvs.length ∧ Paired (fun (y : List V) (kv : List Key × V) => ∃ b, y = [.ref b, kv.2] ∧ H b = some (.tup (kv.1.map kV))) ys kvs ∧
      ∀ (j : Nat) (y : List V), ys[j]? = some y → ∃ (x : List Key × Addr × Value) (kv : List Key × V), vs[j]? = some x ∧ kvs[j]? = some kv ∧ y = [.ref x.2.1, kv.2] ∧ RelV kv.2 x.2.2 := by
    clear hes raw hl hG hacc hsz hdo lk q hk hS hz ha
    induction kt with
    | nil => exact ⟨[], rfl, .nil, fun j y h => by simp at h⟩
    | @cons kv x ks xs h t ih =>
      obtain ⟨ys, h1, h2, h3⟩ := ih
      refine ⟨[.ref x.2.1, kv.2] :: ys, by simp [h1], .cons ⟨_, rfl, h.2.1⟩ h2, fun j y hj => ?_⟩
      cases j with
      | zero => cases hj; exact ⟨x, kv, rfl, rfl, rfl, h.2.2⟩
      | succ j => exact h3 j y hj
  obtain ⟨ys, ly, py, gy⟩ := hys
  have hSn : s.heap.objs.size ∉ as := fun z => Nat.lt_irrefl _ (hG.above _ z)
  have nd : as.Nodup := List.Pairwise.imp (fun {a b} (h : a < b) => Nat.ne_of_lt h) hG.rise
  have new : ∀ t ∈ as, H t = none := fun t ht => I.hok.fresh (Nat.le_of_lt (hG.above t ht))
  have newS : H s.heap.objs.size = none := I.hok.fresh (Nat.le_refl _)
  have atP := putG_at as ys (upd H s.heap.objs.size (.lst (as.map V.ref))) (by omega) nd
  have off : ∀ b, b ∉ as → b ≠ s.heap.objs.size → putG (upd H s.heap.objs.size (.lst (as.map V.ref))) as ys b = H b := fun b h1 h2 => by rw [putG_off as ys _ h1, upd_ne h2]
  have low : ∀ b o, s.heap.get? b = some o → b ∉ as ∧ b ≠ s.heap.objs.size := fun b o e => ⟨fun z => absurd (Heap.lt_size e) (Nat.not_lt.mpr (Nat.le_of_lt (hG.above b z))), Nat.ne_of_lt (Heap.lt_size e)⟩
  have kp : ∀ b u, H b = some u → (putG (upd H s.heap.objs.size (.lst (as.map V.ref))) as ys) b = some u := fun b u e => by
    rw [off b (fun z => by rw [new b z] at e; cases e) (fun z => by rw [z, newS] at e; cases e)]
    exact e
  have eS : putG (upd H s.heap.objs.size (.lst (as.map V.ref))) as ys s.heap.objs.size = some (.lst (as.map V.ref)) := by rw [putG_off as ys _ hSn, upd_same]
  refine ⟨.ref s.heap.objs.size, putG (upd H s.heap.objs.size (.lst (as.map V.ref))) as ys, ?_, rfl, q _ _ as ys kp newS eS new atP py⟩
  refine I.call' (ch := []) rfl ⟨fun b o q _ _ _ => hk b o q, fun b o q _ _ _ => ⟨o.slots, hk b o q⟩, fun b o q n _ => ?_, fun b o q _ => ⟨o, hk b o q⟩, fun b xs q => kp b _ q, fun b o u q => kp b _ q, fun b ps q => ⟨#[], by rw [kp b _ q]; simp⟩⟩ (fun b u q => ?_) I.bare fun b z => by simp at z
  · obtain ⟨z1, z2⟩ := low b o q
    rw [off b z1 z2]
    exact n
  · by_cases hb : b ∈ as
    · obtain ⟨j, y, e1, e2, e3⟩ := LiI.paired_ix atP hb
      rw [e3] at q
      cases q
      obtain ⟨hj, f3⟩ := hG.pairs j b e1
      obtain ⟨x, kv, g1, g2, g3, g4⟩ := gy j y e2
      obtain ⟨x', y1, y2, y3, _⟩ := hes j hj
      rw [g1] at y1
      cases y1
      subst g3
      rw [y2, y3] at f3
      exact ⟨by show 2 ≤ sizeLine; decide, [.ref x.2.1, x.2.2], .cons rfl (.cons g4 .nil), ⟨_, f3, rfl, _, rfl⟩⟩
    · by_cases hb2 : b = s.heap.objs.size
      · rw [hb2] at q ⊢
        rw [eS] at q
        cases q
        refine ⟨by rw [List.length_map]; omega, acc.toList, c, by rw [hacc]; exact LiI.vals_refs as, ?_⟩
        rw [Array.toArray_toList]
        exact hS
      · rw [off b hb hb2] at q
        exact (I.hok b u q).stay (fun d v _ y => hk d v y) (fun d y => kp d _ y) fun d xs y => kp d _ y
theorem RTs.vals {G : Hp} : ∀ {xs : List (List Key × D)} {vs : List (List Key × V)}, RTs K ct G xs vs → RVs K ct G (xs.map (·.2)) (vs.map (·.2))
  | _, _, .nil => .nil
  | _, _, .cons r t => .cons r (RTs.vals t)
def keyTup (k : List Key) : D := .tup (k.map keyVal)
theorem keysVal_rv {G : Hp} : ∀ k : List Key, RVs K ct G (k.map keyVal) (k.map kV)
  | [] => .nil
  | k :: r => .cons (keyVal_rv k) (keysVal_rv r)
def gItemsT : D → Option D
  | .dT kvs => some (.lst (kvs.map fun kv => .tup [keyTup kv.1, kv.2]))
  | _ => none
def gValsT : D → Option D
  | .dT kvs => some (.lst (kvs.map (·.2)))
  | _ => none
/-- what a read of a tuple-keyed dict gives, at an expression -/
theorem sim_view {f : Bool} {t : TE} {d : DE} {g : D → Option D} {r : V → Hp → VK → Prop} (s1 : SimE K ct c W false t d)
    (hs : ∀ G H dx x dd Q, Same G H → TupIn G H → RD K ct G H dx x → g dx = some dd → Out K ct f G H dd Q → r x H Q) : SimE K ct c W f (fun σ H Q => t σ H fun x H1 => r x H1 Q) (dUn g d) := fun G H env σ Q rel p => by
  refine s1 G H env σ _ rel ?_
  unfold dUn at p
  cases ea : d env with
  | no => rw [ea] at p; exact p
  | ex q e1 => rw [ea] at p; exact p
  | ok x e1 =>
    rw [ea] at p
    intro G1 H1 v1 t1 R1 X1 _
    dsimp only at p
    cases z1 : rd e1 x with
    | none => rw [z1] at p; exact p.elim
    | some dx =>
      rw [z1] at p
      dsimp only at p
      cases z2 : g dx with
      | none => rw [z2] at p; exact p.elim
      | some dd =>
        rw [z2] at p
        exact hs G1 H1 dx v1 dd Q R1.sub R1.tp (X1.rd R1 z1) z2 (Out.post R1 t1 p)
theorem je_itemsT {e : Expr} {d : DE} {p apos cpos pos : Pos} (hm : X.mg "list" = none) (he : JE X ct c W false e d) (hc : X.calm = true := by rfl) (hg : Gl X "list" := by rfl) (hbase : attributeBase e "items" X.env (eval e X.env) = eval e X.env := by rfl) (hline : (apos.endLine == cpos.line) = true := by rfl)
    (hs : starEach [.Call (.Attribute e "items" apos) [] [] cpos] X.env = (false, eval (.Call (.Attribute e "items" apos) [] [] cpos) X.env) :: starEach [] X.env := by rfl) :
    JE X ct c W true (.Call (.Name "list" p) [.Call (.Attribute e "items" apos) [] [] cpos] [] pos) (dUn gItemsT d) := by
  obtain ⟨t, p1, s1⟩ := he
  refine ⟨_, pe_callTy (cr_listIt hc) hg hm (by decide +kernel) (pa_cons (pe_bm0 PySem.F.plainAttrs_dict PySem.F.slot_dict_items PySem.F.type_dict_items L2.DX.mt_itemsT p1 hbase hline) pa_nil hs) (by decide) (by decide) hs rfl, ?_⟩
  refine sim_view (r := fun x H Q => tyV X.K "dict" x H ∧ L2.DX.rItemsT x [] H fun y H1 => rListIt [y] H1 Q) s1 fun G H dx x dd Q s tp r e o => ?_
  unfold gItemsT at e
  split at e
  · rename_i kvs
    cases e
    obtain ⟨a, us, rfl, ha, rk⟩ := r.dT_inv s
    refine ⟨.inr (.inr (.inl ⟨rfl, .inr ⟨us, ha⟩⟩)), a, us, rfl, rfl, ha, fun v hv => ?_⟩
    have hav : a ≠ v := fun z => by rw [z, hv] at ha; cases ha
    refine ⟨v, a, us, rfl, upd_same, by rw [upd_ne hav]; exact ha, fun H' l ts ys k1 hl hl2 hts pr py => ?_⟩
    have g0 : Grow G H G (upd H v (L2.DX.itemsO v a)) := Grow.out (o := L2.DX.itemsO v a) s hv (by intro _ z; cases z)
    have g1 := newT_grow (G := G) g0.s k1
    have hlv : v ≠ l := fun z => by rw [← z, upd_same] at hl; cases hl
    have Hl : H l = none := by rw [upd_ne (Ne.symm hlv)] at hl; exact hl
    have gp : G l = none := s.free Hl
    have rvs : ∀ {ks : List (List Key × D)} {ws : List (List Key × V)} {as : List Addr} {ys : List (List V)}, RTs X.K ct G ks ws → Paired (fun (t : Addr) (y : List V) => H' t = some (.tup y)) as ys → Paired (fun (y : List V) (kv : List Key × V) => ∃ b, y = [.ref b, kv.2] ∧ (upd H v (L2.DX.itemsO v a)) b = some (.tup (kv.1.map kV))) ys ws → (∀ t ∈ as, (upd H v (L2.DX.itemsO v a)) t = none) →
        RVs X.K ct (newT G (upd H v (L2.DX.itemsO v a)) H') (ks.map fun kv => .tup [keyTup kv.1, kv.2]) (as.map V.ref) := fun {ks ws as ys} r => by
      induction ks generalizing ws as ys with
      | nil => intro p q m; cases r; cases q; cases p; exact .nil
      | cons z ks ih =>
        intro p q m
        cases r with
        | cons r1 rt =>
          cases q with
          | cons q1 qt =>
            cases p with
            | cons p1 pt =>
              obtain ⟨b, rfl, hb⟩ := q1
              have hbv : b ≠ v := fun z => by rw [z, upd_same] at hb; cases hb
              have hb' := hb
              rw [upd_ne hbv] at hb'
              have gb := tp b _ hb'
              exact .cons (.tup (newT_at (m _ List.mem_cons_self) p1) (.cons (.tup (g1.g _ _ gb) (keysVal_rv _)) (.cons (r1.mono g1.g) .nil))) (ih rt pt qt fun t h => m t (List.mem_cons_of_mem _ h))
    exact o _ H' (.ref l) (g0.trans g1) ⟨⟨ts.map V.ref, hl2, (newT_lst hl2).trans gp, rvs rk pr py hts⟩, fun q e => by cases e; exact Hl⟩
  · cases e
theorem je_valsT {e : Expr} {d : DE} {p apos cpos pos : Pos} (hm : X.mg "list" = none) (he : JE X ct c W false e d) (hc : X.calm = true := by rfl) (hg : Gl X "list" := by rfl) (hbase : attributeBase e "values" X.env (eval e X.env) = eval e X.env := by rfl) (hline : (apos.endLine == cpos.line) = true := by rfl)
    (hs : starEach [.Call (.Attribute e "values" apos) [] [] cpos] X.env = (false, eval (.Call (.Attribute e "values" apos) [] [] cpos) X.env) :: starEach [] X.env := by rfl) :
    JE X ct c W true (.Call (.Name "list" p) [.Call (.Attribute e "values" apos) [] [] cpos] [] pos) (dUn gValsT d) := by
  obtain ⟨t, p1, s1⟩ := he
  refine ⟨_, pe_callTy (cr_listVal hc) hg hm (by decide +kernel) (pa_cons (pe_bm0 PySem.F.plainAttrs_dict PySem.F.slot_dict_values PySem.F.type_dict_values mt_valuesT p1 hbase hline) pa_nil hs) (by decide) (by decide) hs rfl, ?_⟩
  refine sim_view (r := fun x H Q => tyV X.K "dict" x H ∧ rValuesT x [] H fun y H1 => rListVal [y] H1 Q) s1 fun G H dx x dd Q s tp r e o => ?_
  unfold gValsT at e
  split at e
  · rename_i kvs
    cases e
    obtain ⟨a, us, rfl, ha, rk⟩ := r.dT_inv s
    refine ⟨.inr (.inr (.inl ⟨rfl, .inr ⟨us, ha⟩⟩)), a, us, rfl, rfl, ha, fun v hv => ?_⟩
    have hav : a ≠ v := fun z => by rw [z, hv] at ha; cases ha
    refine ⟨v, a, us, rfl, upd_same, by rw [upd_ne hav]; exact ha, fun l hl => ?_⟩
    have g0 : Grow G H G (upd H v (valuesO v a)) := Grow.out (o := valuesO v a) s hv (by intro _ z; cases z)
    have hlv : v ≠ l := fun z => by rw [← z, upd_same] at hl; cases hl
    have Hl : H l = none := by rw [upd_ne (Ne.symm hlv)] at hl; exact hl
    exact o G _ (.ref l) (g0.trans (Grow.out (o := .lst (us.map (·.2))) g0.s hl)) ⟨⟨_, upd_same, s.free Hl, rk.vals⟩, fun q e => by cases e; exact Hl⟩
  · cases e
end
end Dn

namespace Dn
open PySem PySem.Spec PyProof.Rows L2
/-! max of a tuple of ints -/
section
variable {X : Cx} {ct : Nat → Addr} {c : Cf} {W : WX} {K : PySem.W.Frag}
theorem ltI (a b : Int) : PySem.W.dataLt (.int a) (.int b) = decide (a < b) := by
  show PyProof.Rows.lexLt itemOrd [.inl a] [.inl b] = _
  rw [PyProof.Rows.lex_cons]
  have b1 : ∀ i j : Int, itemOrd.blt (.inl i) (.inl j) = decide (i < j) := fun i j => rfl
  have z : PyProof.Rows.lexLt itemOrd [] [] = false := rfl
  rw [b1, b1, z]
  simp
theorem maxD_ints : ∀ (ns : List Int) (n : Int), PySem.W.maxD (.int n) (ns.map PyData.int) = .int (maxL n ns)
  | [], n => rfl
  | m :: ns, n => by
    have ih := maxD_ints ns (if m > n then m else n)
    unfold PySem.W.maxD at ih ⊢
    rw [List.map_cons, List.foldl_cons]
    unfold maxL
    rw [← ih]
    congr 1
    rw [ltI]
    by_cases h : n < m
    · simp [h]
    · simp [h]
theorem alike_ints (ns : List Int) : PySem.W.AlikeAll (ns.map PyData.int) := by
  refine ⟨fun x hx y hy => ?_, fun x hx => ?_⟩
  · obtain ⟨a, _, rfl⟩ := List.mem_map.mp hx
    obtain ⟨b, _, rfl⟩ := List.mem_map.mp hy
    simp [PySem.W.alike]
  · obtain ⟨a, _, rfl⟩ := List.mem_map.mp hx
    simp
theorem depth_ints : ∀ ns : List Int, PyData.depthAll (ns.map PyData.int) = 0
  | [] => by simp [PyData.depthAll]
  | n :: ns => by simp [PyData.depthAll, PyData.depth, depth_ints ns]
theorem reads_ints {h : Heap} : ∀ {ns : List Int} {us : List Value}, Vals (ns.map V.int) us → ReadsAll h us (ns.map PyData.int) []
  | [], _, .nil => .nil
  | n :: ns, _, .cons r t => by
    obtain ⟨tk, rfl⟩ := r
    exact .cons (as := []) (bs := []) (.int n tk) (reads_ints t)
def rMaxT (K : PySem.W.Frag) : List V → Hp → VK → Prop := fun vs H Q => ∃ (a : Addr) (n : Int) (ns : List Int), vs = [V.ref a] ∧ SqT K H a ((n :: ns).map V.int) ∧ Q (.int (maxL n ns)) H
theorem cr_maxT (hc : X.calm = true) (hu : X.A.units + 65 < cLine) : CallR X (.builtin "max") (rMaxT X.K) := by
  intro pins s σ H vs us Q I r h
  obtain ⟨a, n, ns, rfl, hs, q⟩ := h
  obtain ⟨its, rv, hl, hz⟩ := I.tuple hs
  rw [Vals.ref1 r]
  refine PySem.W.max_tuple_data (x := .int n) (xs := ns.map PyData.int) (as := []) (I.ok.hd hc) hl (by simpa using reads_ints rv) (alike_ints (n :: ns)) (by
    have := depth_ints (n :: ns)
    rw [List.map_cons] at this
    rw [this]; omega) fun i v h' tk bs hi hr hk => ?_
  rw [maxD_ints] at hr
  cases hr with
  | int _ t => exact ⟨.int _, H, I.kept hk, ⟨_, rfl⟩, q⟩
def bMaxA : List D → Option D
  | [.tup xs] => match unInts xs with
    | some (n :: r) => some (.int (maxL n r))
    | _ => none
  | xs => bMax xs
theorem call_maxAT (hc : X.calm = true) (hu : X.A.units + 65 < cLine) : CallR X (.builtin "max") (fun xs H Q => ((rMax X.K xs H Q) ∨ ∃ i j, xs = [.int i, .int j] ∧ Q (.int (if j > i then j else i)) H) ∨ rMaxT X.K xs H Q) := CallR.or (call_maxA hc) (cr_maxT hc hu)
theorem fs_maxA : FnS K ct false (fun xs H Q => ((rMax K xs H Q) ∨ ∃ i j, xs = [.int i, .int j] ∧ Q (.int (if j > i then j else i)) H) ∨ rMaxT K xs H Q) bMaxA := fun G H ds vs d Q s r e o => by
  unfold bMaxA at e
  split at e
  · rename_i xs
    right
    split at e
    · rename_i n ns z
      cases e
      obtain ⟨v, rfl, q0⟩ := rds1 r
      obtain ⟨p, vs, rfl, hp, _, rv⟩ := q0.tup_inv s
      rw [unInts_eq z] at rv
      have := rv.ints
      subst this
      exact ⟨p, n, ns, rfl, .inl (.inl hp), o.val s (.int _)⟩
    · cases e
  · exact .inl (fs_max G H ds vs d Q s r e o)
end
end Dn

namespace Dn
open PySem PySem.Spec PyProof.Rows L2
section
variable {X : Cx} {ct : Nat → Addr} {c : Cf} {W : WX} {K : PySem.W.Frag}
/-! isinstance(x, (S, T)) -/
def gIsi2 (t u : Ty) (d : D) : Option D := match isTy t d, isTy u d with
  | some a, some b => some (.bl (a || b))
  | _, _ => none
theorem je_isi2 (t u : Ty) {e : Expr} {d : DE} {p p2 p3 tp pos : Pos} {kk : Nat} (hm : X.mg "isinstance" = none) {T U : Str} (hT : X.mg T = none) (hU : X.mg U = none) (he : JE X ct c W false e d) (hg : Gl X "isinstance" := by rfl) (hgT : Gl X T := by rfl) (hgU : Gl X U := by rfl) (hv : bootBuiltins T = some (.type t.nm) := by decide +kernel) (hv2 : bootBuiltins U = some (.type u.nm) := by decide +kernel)
    (hn : T ≠ "__name__" := by decide) (hdb : (T == ("__debug__" : Str)) = false := by decide) (hn2 : U ≠ "__name__" := by decide) (hdb2 : (U == ("__debug__" : Str)) = false := by decide)
    (hst : starEach [e, .Tuple [.Name T p2, .Name U p3] kk tp] X.env = (false, eval e X.env) :: starEach [.Tuple [.Name T p2, .Name U p3] kk tp] X.env := by rfl) (hst2 : starEach [.Tuple [.Name T p2, .Name U p3] kk tp] X.env = (false, eval (.Tuple [.Name T p2, .Name U p3] kk tp) X.env) :: starEach [] X.env := by rfl)
    (hs3 : starEach [.Name T p2, .Name U p3] X.env = (false, eval (.Name T p2) X.env) :: starEach [.Name U p3] X.env := by rfl) (hs4 : starEach [.Name U p3] X.env = (false, eval (.Name U p3) X.env) :: starEach [] X.env := by rfl)
    (hpl : (backTo pos (starEach [.Tuple [.Name T p2, .Name U p3] kk tp] X.env)).any (·.1) = false := by rfl) :
    JE X ct c W false (.Call (.Name "isinstance" p) [e, .Tuple [.Name T p2, .Name U p3] kk tp] [] pos) (dUn (gIsi2 t u) d) := by
  obtain ⟨te, pe, se⟩ := he
  have pT : PE X (.Name T p2) (tC (.ty t.nm)) := pe_bltn (v := .ty t.nm) hgT hT hv rfl hn hdb
  have pU : PE X (.Name U p3) (tC (.ty u.nm)) := pe_bltn (v := .ty u.nm) hgU hU hv2 rfl hn2 hdb2
  refine ⟨_, pe_callB call_isiT hg hm (by decide +kernel) (pa_cons pe (pa_cons (pe_tup (pa_cons pT (pa_cons pU pa_nil hs4) hs3)) pa_nil hst2) hst) (by decide) (by decide) hst hpl, ?_⟩
  refine sim_un (r := fun x H Q => ([.ty t.nm, .ty u.nm] : List V).length ≤ sizeLine ∧ ∀ q, H q = none → rIsiT X.K [x, .ref q] (upd H q (.tup [.ty t.nm, .ty u.nm])) Q) (fun G H dx x d Q s r e o => ?_) se
  refine ⟨by rw [sizeLine_eq]; exact (by decide : 2 ≤ 16777216), fun q hq => ?_⟩
  unfold gIsi2 at e
  split at e
  · rename_i a b z1 z2
    cases e
    obtain ⟨n, h1, h2⟩ := isTy_kit t dx a z1
    obtain ⟨n2, h3, h4⟩ := isTy_kit u dx b z2
    rw [h1] at h3
    cases h3
    have g := Grow.new (o := .tup [.ty t.nm, .ty u.nm]) s hq
    have r2 : RD X.K ct (upd G q (.tup [.ty t.nm, .ty u.nm])) (upd H q (.tup [.ty t.nm, .ty u.nm])) dx x := by
      rcases r with r | r
      · exact .inl (r.mono g.g)
      · obtain ⟨p', o', rfl, hp', hg'⟩ := r.top
        exact .inr (r.step g.g (fun w hw => g.h _ _ hw) (by rw [upd_ne (fun z => by rw [z, hq] at hp'; cases hp')]; exact hg'))
    refine ⟨x, q, [.ty t.nm, .ty u.nm], .type n, [.type t.nm, .type u.nm], a || b, rfl, upd_same, .cons (.ty _) (.cons (.ty _) .nil), ty_rv g.s r2 h1, ?_, ?_⟩
    · refine kitAny_cons (kit_ty h2) (fun ha => ?_) (fun ha => by rw [ha]; rfl)
      subst ha
      refine kitAny_cons (kit_ty h4) (fun hb => ?_) (fun hb => by rw [hb]; rfl)
      rw [hb]
      rfl
    · exact o _ _ _ g (.bl _)
  · cases e
end
end Dn

namespace Dn
open PySem PySem.Spec PyProof.Rows L2
/-! except X: and except X as e: side by side -/
abbrev Sui := Addr → Value → Option Addr → TS
/-- what a suite's end means where its name (slot i) goes -/
def goneE (i : Nat) (Z : Ends) : Ends := ⟨fun τ K => Z.nx (τ.set i none) K, Z.rt, fun τ K => Z.bk (τ.set i none) K, fun τ K => Z.ct (τ.set i none) K⟩
def wMix (F : PySem.W.Frag) (out : WX) (Z : Ends) : List (Value × Option Nat × Sui) → WX
  | [] => out
  | (cl, nm, su) :: more => fun k dd τ K => ∃ yes, PySem.W.exmOne F k cl = some yes ∧ (yes = false → wMix F out Z more k dd τ K) ∧
      (yes = true → ∀ q, K q = none → match nm with
        | none => su q k dd Z τ K
        | some i => su q k dd (goneE i Z) (τ.set i (some (.ref q))) K)
inductive HdMix (X : Cx) : List ExceptHandler → List (Value × Option Nat × Sui) → Prop
  | nil : HdMix X [] []
  | plain {x : Str} {cl : Value} {su : Sui} {s0 : Stmt} {ss : List Stmt} {p1 p2 : Pos} {hs : List ExceptHandler} {l : List (Value × Option Nat × Sui)} (hn : Names X x cl)
      (ok : ∀ (q : Addr) (ob : Obj) (k : Value) (dd : Option Addr) (pp : List (Addr × Obj)), Zc k dd ob → (∃ vs, ob.data = .fields vs) → PSs (X.suite q ((q, ob) :: pp)) (s0 :: ss) (su q k dd)) (r : HdMix X hs l) :
      HdMix X (.ExceptHandler (some (.Name x p1)) none (s0 :: ss) p2 :: hs) ((cl, none, su) :: l)
  | named {x n : Str} {i : Nat} {cl : Value} {su : Sui} {s0 : Stmt} {ss : List Stmt} {p1 p2 : Pos} {hs : List ExceptHandler} {l : List (Value × Option Nat × Sui)} (hn : Names X x cl) (nd : X.N.Nodup) (hi : X.N[i]? = some n) (hl : X.env.kindOf n = some .local)
      (ok : ∀ (q : Addr) (ob : Obj) (k : Value) (dd : Option Addr) (pp : List (Addr × Obj)), Zc k dd ob → (∃ vs, ob.data = .fields vs) → PSs (X.suite q ((q, ob) :: pp)) (s0 :: ss) (su q k dd)) (r : HdMix X hs l) :
      HdMix X (.ExceptHandler (some (.Name x p1)) (some n) (s0 :: ss) p2 :: hs) ((cl, some i, su) :: l)
theorem ps_try_mix {X : Cx} {body : List Stmt} {h0 : ExceptHandler} {hs : List ExceptHandler} {l : List (Value × Option Nat × Sui)} {pos : Pos} {tb : WX → TS} {out : WX} (st : X.stack = X.env :: X.outer) (fr : X.env.frame = some X.env.locals) (tk : Takes X out)
    (hb : ∀ (W : WX) (pp : List (Addr × Obj)) (xe : Value → Shared → Prop), Takes (X.tr pp xe) W → PassesOwn (model X.prog X.w) X.A X.env xe → PSs (X.tr pp xe) body (tb W)) (hh : HdMix X (h0 :: hs) l) :
    PS X (.Try body (h0 :: hs) [] [] pos) (fun Z τ K => tb (wMix X.K out Z l) Z τ K) := by
  refine ⟨fun pins s τ K Z I h => ?_⟩
  have good := I.ok
  have frs0 : X.A.frames = some (X.env :: X.outer) := by rw [good.frames, st]
  refine wpAny_Try_except (wpAny_mono ((hb (wMix X.K out Z l) (X.pn ++ pins) (fun e t1 => wpAny (model X.prog X.w) X.A (noteFrame e X.env) (fun _ t2 => wpAny (model X.prog X.w) X.A (setFlight e none) (fun _ t3 => wpAny (model X.prog X.w) X.A (handleBy e X.env (h0 :: hs)) (SP X pins Z) X.xe t3) X.xe t2) X.xe t1) (fun u t xx => ?_) PassesOwn.looking).run [] s τ K Z (I.toTry _) h) (fun f t1 hsp => ?_) (fun e t1 he => he))
  · obtain ⟨q, B, sJ, pins', τ', K', k, dd, rfl, J', nb, up, sky, nq, os, ag, wish⟩ := xx
    have J : Inv X pins τ' K' sJ := J'.ofTry good
    have sky2 : Sky B (X.env :: X.outer) q (Zc k dd) X.env.locals t.heap := by rw [← st]; exact sky
    show wpAny (model X.prog X.w) X.A (noteFrame (.ref q) X.env) _ _ _
    refine Sky.land Zc.steady frs0 fr sky2 fun h3 fl3 up3 => ?_
    have J3 : Inv X pins τ' K' { t with heap := h3 } := J.landed nb fl3.1 (up.trans up3) os ag
    obtain ⟨ob3, vs3, at3, z3, d3⟩ := fl3.there
    have out3 : q ∉ frs (X.env :: X.outer) := fun hm => by
      obtain ⟨_, o', e', hnf⟩ := fl3.2.2.1.mem hm
      rw [at3] at e'; cases e'
      exact hnf _ d3
    have ne1 : q ≠ X.env.locals := fun z => out3 (List.mem_filterMap.mpr ⟨X.env, List.mem_cons_self, by rw [fr, z]⟩)
    have ne2 : q ∉ X.fs := fun hm => let ⟨e, he, w⟩ := List.mem_filterMap.mp hm; out3 (List.mem_filterMap.mpr ⟨e, List.mem_cons_of_mem _ he, w⟩)
    have S3 := J3.suite at3 d3 nq ne1 ne2
    have tyq : PySem.W.Looks (model X.prog X.w) h3 (typeOf (.ref q)) k := fun A Q E s kk w => wpAny_typeOf_ref (kk _ _ at3) (by rw [z3.1]; exact w)
    have asks : ∀ {x : Str} {cl : Value} {np : Pos} {Q E : Value → Shared → Prop}, Names X x cl → Q cl { t with heap := h3 } → wpAny (model X.prog X.w) (X.A.mark (some (.ref q))) (eval (.Name x np) X.env) Q E { t with heap := h3 } := fun {x cl np Q E} hn w => by
      obtain ⟨g1, g2, g3 | ⟨g3, g4, g5⟩⟩ := hn
      · exact ld_glob (X := X.suite q ((q, ob3) :: (X.pn ++ pins))) S3 g1 g3 w g2
      · exact ld_blt (X := X.suite q ((q, ob3) :: (X.pn ++ pins))) S3 g1 g3 g4 w g5 g2
    have go : ∀ {hs' : List ExceptHandler} {l' : List (Value × Option Nat × Sui)}, HdMix X hs' l' → wMix X.K out Z l' k dd τ' K' → wpAny (model X.prog X.w) X.A (handleBy (.ref q) X.env hs') (SP X pins Z) X.xe { t with heap := h3 } := by
      intro hs' l' hk
      induction hk with
      | nil =>
        intro wish
        refine wpAny_handleBy_nil ?_
        obtain ⟨_, _, _, ob, vs, T, oT, ts', w1, _, w3, w4, _⟩ := id fl3
        unfold PySem.passOn
        refine wpAny_bind (wpAny_field w1 w3 w4 ?_)
        rw [if_neg (show ¬ ((Value.ref T == Value.none) = true) by simp)]
        have fin : wpAny (model X.prog X.w) X.A (setFlight (.ref q) X.env.frame) (fun _ t4 => wpAny (model X.prog X.w) X.A (throw (.ref q) : Sem Flow) (SP X pins Z) X.xe t4) X.xe { t with heap := h3 } := by
          rw [fr]
          exact HandSPX.setFlight_upZ fl3 fun h4 hh4 up4 => wpAny_throw (tk _ _ ⟨q, B, sJ, pins, τ', K', k, dd, rfl, J, nb, (up.trans up3).trans up4, .inr (.inr (by rw [st]; exact hh4)), nq, os, ag, wish⟩)
        first | exact wpAny_bind (wpAny_pure (wpAny_bind fin)) | exact wpAny_bind fin
      | @plain x cl su s0 ss p1 p2 hs2 l2 hn ok r ih =>
        intro wish
        obtain ⟨yes, hy, hno, hyes⟩ := wish
        refine wpAny_handleBy_cons (codeAny_handlers_test ?_) (by intro w; cases w)
        refine asks hn ((PySem.W.exm_one (M := model X.prog X.w) J3.kIn tyq hy).here ?_)
        cases yes with
        | false => exact ih (hno rfl)
        | true =>
          refine codeAny_handlers_suite (HandSPX.lands_againZ fl3 fun h4 fl4 up4 => ?_)
          have J4 : Inv X pins τ' K' { t with heap := h4 } := J.landed nb fl4.1 ((up.trans up3).trans up4) os ag
          obtain ⟨ob4, vs4, at4, z4, d4⟩ := fl4.there
          refine wpAny_mono ((ok q ob4 k dd (X.pn ++ pins) z4 ⟨_, d4⟩).run [] _ _ K' _ (J4.suite at4 d4 nq ne1 ne2) (hyes rfl q nq)) (fun f t6 hsp => ?_) (fun _ _ z => False.elim z)
          cases f with
          | next => obtain ⟨τ6, K6, S6, w6⟩ := hsp; exact ⟨_, _, S6.unsuite good, w6⟩
          | brk => obtain ⟨τ6, K6, S6, w6⟩ := hsp; exact ⟨_, _, S6.unsuite good, w6⟩
          | cont => obtain ⟨τ6, K6, S6, w6⟩ := hsp; exact ⟨_, _, S6.unsuite good, w6⟩
          | ret u => obtain ⟨v6, τ6, K6, S6, r6, w6⟩ := hsp; exact ⟨_, _, _, S6.unsuite good, r6, w6⟩
      | @named x n i cl su s0 ss p1 p2 hs2 l2 hn nd hi hl ok r ih =>
        intro wish
        obtain ⟨yes, hy, hno, hyes⟩ := wish
        refine wpAny_handleBy_cons (codeAny_handlers_test ?_) (by intro w; cases w)
        refine asks hn ((PySem.W.exm_one (M := model X.prog X.w) J3.kIn tyq hy).here ?_)
        cases yes with
        | false => exact ih (hno rfl)
        | true =>
          refine codeAny_handlers_suite_as (HandSPX.lands_againZ fl3 fun h4 fl4 up4 => ?_)
          have J4 : Inv X pins τ' K' { t with heap := h4 } := J.landed nb fl4.1 ((up.trans up3).trans up4) os ag
          obtain ⟨ob4, vs4, at4, z4, d4⟩ := fl4.there
          refine store_ok (X := X.suite q ((q, ob4) :: (X.pn ++ pins))) (v := .ref q) (J4.suite at4 d4 nq ne1 ne2) nd hi (.inl hl) rfl (fun t5 S5 => ?_) (.inr hl)
          refine wpAny_mono ((ok q ob4 k dd (X.pn ++ pins) z4 ⟨_, d4⟩).run [] t5 _ K' _ S5 (hyes rfl q nq)) (fun f t6 hsp => ?_) (fun _ _ z => False.elim z)
          have done : ∀ {τ6 : L2.St} {K6 : Hp} {Q : Shared → Prop}, Inv (X.suite q ((q, ob4) :: (X.pn ++ pins))) [] τ6 K6 t6 → (∀ t7, Inv X pins (τ6.set i none) K6 t7 → Q t7) → wpAny (model X.prog X.w) X.A (do bindName X.env n .none; unbindBehindTheSuite X.env n p2) (fun _ t7 => Q t7) X.xe t6 := fun {τ6 K6 Q} S6 w => gone_ok (S6.unsuite good) nd hi hl w
          cases f with
          | next => obtain ⟨τ6, K6, S6, w6⟩ := hsp; exact done S6 fun t7 J7 => ⟨_, _, J7, w6⟩
          | brk => obtain ⟨τ6, K6, S6, w6⟩ := hsp; exact done S6 fun t7 J7 => ⟨_, _, J7, w6⟩
          | cont => obtain ⟨τ6, K6, S6, w6⟩ := hsp; exact done S6 fun t7 J7 => ⟨_, _, J7, w6⟩
          | ret u => obtain ⟨v6, τ6, K6, S6, r6, w6⟩ := hsp; exact done S6 fun t7 J7 => ⟨_, _, _, J7, r6, w6⟩
    exact go hh wish
  · cases f with
    | next => obtain ⟨τ', K', J', w⟩ := hsp; exact wpAny_execs_nil ⟨τ', K', J'.ofTry good, w⟩
    | brk => obtain ⟨τ', K', J', w⟩ := hsp; exact ⟨τ', K', J'.ofTry good, w⟩
    | cont => obtain ⟨τ', K', J', w⟩ := hsp; exact ⟨τ', K', J'.ofTry good, w⟩
    | ret u => obtain ⟨v, τ', K', J', r, w⟩ := hsp; exact ⟨v, τ', K', J'.ofTry good, r, w⟩
/-! as denotations -/
abbrev HD := Ex → Env → RS
def handM (x : Ex) (e : Env) : List (Nat × HD) → RS
  | [] => .ex x e
  | (k, d) :: r => match x.c == k with
    | true => match d x e with
      | .ex _ _ => .no
      | q => q
    | false => handM x e r
def sTryM (L : List Nat) (b : DS) (hs : List (Nat × HD)) : DS := fun env => match b env with
  | .ex x e => match L.contains x.c with
    | true => handM x e hs
    | false => .no
  | r => r
/-- except X: .. -/
def hP (d : DS) : HD := fun _ e => d e
/-- the value of the field f, where the clause's name (slot i) stands for nothing else -/
def fldOf (i : Nat) (f : Str) (x : Ex) (e : Env) : Option D := match e[i]? with
  | some none => match x.f with
    | some (g, d) => match decide (g = f) with | true => some d | false => none
    | none => none
  | _ => none
/-- except X as e: y = e.f -/
def hSet (i j : Nat) (f : Str) : HD := fun x e => match fldOf i f x e with
  | some d => .nx (e.set j (some d))
  | none => .no
/-- except X as e: y.append(e.f) -/
def hApp (i j : Nat) (f : Str) : HD := fun x e => match fldOf i f x e with
  | some d => match look e j with
    | some (.lst xs) => match decide (xs.length < 1000000) with | true => .nx (e.set j (some (.lst (xs ++ [d])))) | false => .no
    | _ => .no
  | none => .no
/-- what the top tells of an error class whose field is read -/
structure XfT (K : PySem.W.Frag) (ct : Nat → Addr) (n : Nat) (f : Str) : Prop where
  xf : XfC K (ct n)
  no : PySem.W.findIn K (.ref (ct n)) f = some none
def xfaB (K : PySem.W.Frag) (x f : Str) : Bool := xfB K (He.ga K x) && He.eqO (PySem.W.findIn K (.ref (He.ga K x)) f) (some none)
theorem xfT_of {K : PySem.W.Frag} {x f : Str} {n : Nat} (h : xfaB K x f = true) (hx : exn n = x) : XfT K (ctK K) n f := by
  subst hx
  obtain ⟨h1, h2⟩ := He.ba h
  exact ⟨xfB_ok h1, He.eqO_ok h2⟩
section
variable {X : Cx} {ct : Nat → Addr} {c : Cf} {W : WX} {K : PySem.W.Frag}
/-- what a named suite needs: the state without its name -/
def tNm (K : PySem.W.Frag) (ct : Nat → Addr) (c : Cf) (i n : Nat) (hd : HD) : Sui := fun q cls dd E τ H => ∃ (Z : Ends) (G : Hp) (env : Env) (σ : L2.St) (x : Ex), E = goneE i Z ∧ τ = σ.set i (some (.ref q)) ∧ H q = none ∧ x.c = n ∧ Rel K ct c G H env σ ∧ RE K ct G x cls dd ∧ PostS K ct c W0 G Z (hd x env)
def NmOk (X : Cx) (ct : Nat → Addr) (c : Cf) (i n : Nat) (ss : List Stmt) (hd : HD) : Prop := ∀ (q : Addr) (ob : Obj) (k : Value) (dd : Option Addr) (pp : List (Addr × Obj)), Zc k dd ob → (∃ vs, ob.data = .fields vs) → PSs (X.suite q ((q, ob) :: pp)) ss (tNm X.K ct c i n hd q k dd)
theorem fld_of {i : Nat} {f : Str} {x : Ex} {e : Env} {d : D} {σ : L2.St} {G H : Hp} {cls : Value} {dd : Option Addr} (h : fldOf i f x e = some d) (R : Rel K ct c G H e σ) (hx : RE K ct G x cls dd) : σ[i]? = some none ∧ cls = .ref (ct x.c) ∧ ∃ a v, dd = some a ∧ G a = some (.xd [(f, v)]) ∧ RV K ct G d v := by
  unfold fldOf at h
  split at h
  · rename_i e1
    obtain ⟨h1, h2⟩ := hx
    cases e2 : x.f with
    | none => rw [e2] at h; cases h
    | some z =>
      obtain ⟨g, d'⟩ := z
      rw [e2] at h h2
      dsimp only at h h2
      cases e3 : decide (g = f) with
      | false => rw [e3] at h; cases h
      | true =>
        rw [e3] at h
        have := of_decide_eq_true e3
        subst this
        cases h
        exact ⟨R.un i e1, h1, h2⟩
  · cases h
theorem set_back {σ : L2.St} {i j : Nat} {u v : Option V} (h : σ[i]? = some none) (hij : i ≠ j) : ((σ.set i u).set j v).set i none = σ.set j v := by
  apply List.ext_getElem?
  intro k
  by_cases h1 : i = k
  · subst h1
    have hl : i < σ.length := (List.getElem?_eq_some_iff.mp h).1
    rw [List.getElem?_set_self (by simpa using hl), List.getElem?_set_ne (Ne.symm hij), h]
  · rw [List.getElem?_set_ne h1]
    by_cases h2 : j = k
    · subst h2
      by_cases hl : j < σ.length
      · rw [List.getElem?_set_self (by simpa using hl), List.getElem?_set_self hl]
      · rw [List.getElem?_eq_none (by simpa using hl), List.getElem?_eq_none (by simpa using hl)]
    · rw [List.getElem?_set_ne h2, List.getElem?_set_ne h1, List.getElem?_set_ne h2]
theorem set_off {σ : L2.St} {i : Nat} {u : Option V} (h : σ[i]? = some none) : (σ.set i u).set i none = σ := by
  apply List.ext_getElem?
  intro k
  by_cases h1 : i = k
  · subst h1
    have hl : i < σ.length := (List.getElem?_eq_some_iff.mp h).1
    rw [List.getElem?_set_self (by simpa using hl), h]
  · rw [List.getElem?_set_ne h1, List.getElem?_set_ne h1]
theorem nm_set {i j n : Nat} {y e f : Str} {p1 p2 p3 p4 : Pos} (T : XfT X.K ct n f) (nd : X.N.Nodup) (hij : i ≠ j) (hj : decide (j ∈ c.own) = false) (hi : X.N[i]? = some e := by rfl) (hy : X.N[j]? = some y := by rfl) (hv : Vis X.env.scope e := by first | exact Or.inl rfl | exact Or.inr (Or.inl rfl) | exact Or.inr (Or.inr rfl)) (hd : (e == ("__debug__" : Str)) = false := by decide) (hcd : (e == ("__classdict__" : Str)) = false := by decide)
    (hl : Loc X.env.scope y := by first | exact Or.inl rfl | exact Or.inr rfl) (hs : swapsWith (.Attribute (.Name e p2) f p3) (some (.Name y p1)) p4.line X.env = pure false := by rfl) (hf : X.fn y = true ∨ X.env.scope.names.lookup y = some .local := by first | exact .inl rfl | exact .inr rfl) (hb : attributeBase (.Name e p2) f X.env (eval (.Name e p2) X.env) = eval (.Name e p2) X.env := by rfl) :
    NmOk X ct c i n [.Assign [.Name y p1] (.Attribute (.Name e p2) f p3) p4] (hSet i j f) := fun q ob k dd pp hz hfs => by
  have P : PSs (X.suite q ((q, ob) :: pp)) [.Assign [.Name y p1] (.Attribute (.Name e p2) f p3) p4] (tAsg (tXf q k dd (ct n) f (tVar i)) (gName j)) := pss_one (ps_set (X := X.suite q ((q, ob) :: pp)) nd hy hl (pe_xf T.xf T.no hz hfs (pe_var (X := X.suite q ((q, ob) :: pp)) hi hv hd hcd) hb) hs hf)
  refine ⟨fun pins s τ H E I h => P.run pins s τ H E I ?_⟩
  obtain ⟨Z, G, env, σ, x, rfl, rfl, hq, hn, R, hx, p⟩ := h
  unfold hSet at p
  cases ef : fldOf i f x env with
  | none => rw [ef] at p; exact p.elim
  | some d =>
    rw [ef] at p
    obtain ⟨hu, h1, a, v, rfl, h2, h3⟩ := fld_of ef R hx
    have hlt : i < σ.length := (List.getElem?_eq_some_iff.mp hu).1
    refine ⟨.ref q, List.getElem?_set_self hlt, rfl, by rw [h1, hn], a, _, v, rfl, R.sub _ _ h2, by simp [List.lookup], ?_⟩
    show Z.nx (((σ.set i (some (.ref q))).set j (some v)).set i none) H
    rw [set_back hu hij]
    exact p G H _ (.refl _) (R.set (of_decide_eq_false hj) h3)
theorem nm_app {i j n : Nat} {y e f : Str} {p1 p2 p3 ap cp p4 : Pos} (T : XfT X.K ct n f) (hij : i ≠ j) (hj : decide (j ∈ c.own) = true) (hi : X.N[i]? = some e := by rfl) (hy : X.N[j]? = some y := by rfl) (hv : Vis X.env.scope e := by first | exact Or.inl rfl | exact Or.inr (Or.inl rfl) | exact Or.inr (Or.inr rfl)) (hd : (e == ("__debug__" : Str)) = false := by decide) (hcd : (e == ("__classdict__" : Str)) = false := by decide)
    (hv2 : Vis X.env.scope y := by first | exact Or.inl rfl | exact Or.inr (Or.inl rfl) | exact Or.inr (Or.inr rfl)) (hd2 : (y == ("__debug__" : Str)) = false := by decide) (hcd2 : (y == ("__classdict__" : Str)) = false := by decide) (hb : attributeBase (.Name e p2) f X.env (eval (.Name e p2) X.env) = eval (.Name e p2) X.env := by rfl) (hb2 : attributeBase (.Name y p1) "append" X.env (eval (.Name y p1) X.env) = eval (.Name y p1) X.env := by rfl)
    (hfew : ((backTo cp (starEach [.Attribute (.Name e p2) f p3] X.env)).all (fun x => !x.1) && (backToKw cp (keywordEach [] X.env)).all (fun x => x.1.isSome) && decide (([.Attribute (.Name e p2) f p3] : List Expr).length + ([] : List Keyword).length + (if ([] : List Keyword).isEmpty then 0 else 1) < 30)) = true := by rfl)
    (hline : (ap.endLine == cp.line) = true := by rfl) (hst : starEach [.Attribute (.Name e p2) f p3] X.env = (false, eval (.Attribute (.Name e p2) f p3) X.env) :: starEach [] X.env := by rfl) (hpl : (backTo cp (starEach [] X.env)).any (·.1) = false := by rfl) (hs : swapsWith (.Call (.Attribute (.Name y p1) "append" ap) [.Attribute (.Name e p2) f p3] [] cp) none p4.line X.env = pure false := by rfl) :
    NmOk X ct c i n [.Expr (.Call (.Attribute (.Name y p1) "append" ap) [.Attribute (.Name e p2) f p3] [] cp) p4] (hApp i j f) := fun q ob k dd pp hz hfs => by
  have P := pss_one (ps_expr (X := X.suite q ((q, ob) :: pp)) (pos := p4) (pe_bm (X := X.suite q ((q, ob) :: pp)) (apos := ap) (cpos := cp) PySem.F.plainAttrs_list PySem.F.slot_list_append PySem.F.type_list_append mt_append (pe_var (X := X.suite q ((q, ob) :: pp)) (pos := p1) hy hv2 hd2 hcd2) (pa_cons (pe_xf (pos := p3) T.xf T.no hz hfs (pe_var (X := X.suite q ((q, ob) :: pp)) (pos := p2) hi hv hd hcd) hb) pa_nil hst) hb2 hfew hline hst hpl) hs)
  refine ⟨fun pins s τ H E I h => P.run pins s τ H E I ?_⟩
  obtain ⟨Z, G, env, σ, x, rfl, rfl, hq, hn, R, hx, p⟩ := h
  unfold hApp at p
  cases ef : fldOf i f x env with
  | none => rw [ef] at p; exact p.elim
  | some d =>
    rw [ef] at p
    obtain ⟨hu, h1, a, v, rfl, h2, h3⟩ := fld_of ef R hx
    have hlt : i < σ.length := (List.getElem?_eq_some_iff.mp hu).1
    dsimp only at p
    split at p
    · rename_i xs ex
      split at p
      · rename_i hlen
        have hlen := of_decide_eq_true hlen
        obtain ⟨b, us, hσ, hb1, gb, rv⟩ := own_lst R (of_decide_eq_true hj) ex
        refine ⟨.ref b, by rw [List.getElem?_set_ne hij]; exact hσ, .inl ⟨rfl, us, .inl (.inl hb1)⟩, ?_⟩
        refine ⟨.ref q, List.getElem?_set_self hlt, rfl, by rw [h1, hn], a, _, v, rfl, R.sub _ _ h2, by simp [List.lookup], ?_⟩
        refine ⟨b, us, v, rfl, rfl, hb1, by rw [← rv.len]; exact Nat.lt_of_lt_of_le hlen million, ?_⟩
        show Z.nx ((σ.set i (some (.ref q))).set i none) _
        rw [set_off hu]
        exact p G _ _ (.refl _) (R.write (of_decide_eq_true hj) hσ gb ⟨_, upd_same, gb, rv.append (.cons h3 .nil)⟩)
      · exact p.elim
    · exact p.elim
inductive JHm (X : Cx) (ct : Nat → Addr) (c : Cf) (n : List Nat) : List ExceptHandler → List (Nat × HD) → Prop where
  | nil : JHm X ct c n [] []
  | plain {x : Str} {k : Nat} {s0 : Stmt} {ss : List Stmt} {p1 p2 : Pos} {hs : List ExceptHandler} {l : List (Nat × HD)} {d : DS} (hk : n.contains k = true) (hm : X.mg x = some (.ref (ct k))) (hg : Gl X x) (hdb : (x == ("__debug__" : Str)) = false)
      (ok : ∀ (a : Addr) (oe : Obj) (pn : List (Addr × Obj)), JSs (X.suite a ((a, oe) :: pn)) ct c W0 (s0 :: ss) d) (r : JHm X ct c n hs l) :
      JHm X ct c n (.ExceptHandler (some (.Name x p1)) none (s0 :: ss) p2 :: hs) ((k, hP d) :: l)
  | named {x e : Str} {k i : Nat} {s0 : Stmt} {ss : List Stmt} {p1 p2 : Pos} {hs : List ExceptHandler} {l : List (Nat × HD)} {hd : HD} (hk : n.contains k = true) (hm : X.mg x = some (.ref (ct k))) (hg : Gl X x) (hdb : (x == ("__debug__" : Str)) = false) (nd : X.N.Nodup) (hi : X.N[i]? = some e) (hl : X.env.kindOf e = some .local)
      (ok : NmOk X ct c i k (s0 :: ss) hd) (r : JHm X ct c n hs l) :
      JHm X ct c n (.ExceptHandler (some (.Name x p1)) (some e) (s0 :: ss) p2 :: hs) ((k, hd) :: l)
theorem JHm.all {n : List Nat} {hs : List ExceptHandler} {l : List (Nat × HD)} (h : JHm X ct c n hs l) : ∀ q ∈ l, n.contains q.1 = true := by
  induction h with
  | nil => intro q hq; cases hq
  | plain hk hm hg hdb ok r ih =>
    intro q hq
    rcases List.mem_cons.mp hq with z | z
    · subst z; exact hk
    · exact ih q z
  | named hk hm hg hdb nd hi hl ok r ih =>
    intro q hq
    rcases List.mem_cons.mp hq with z | z
    · subst z; exact hk
    · exact ih q z
theorem postNo {G : Hp} {E : Ends} {r : RS} (p : PostS K ct c W G E (match r with | .ex _ _ => .no | q => q)) : PostS K ct c W0 G E r := by
  cases r with
  | ex x e => exact p.elim
  | no => exact p
  | nx e => exact p
  | bk e => exact p
  | ct e => exact p
  | rt rv e => exact p
  | rn d e => exact p
theorem mix_ok {n : List Nat} {hs : List ExceptHandler} {l : List (Nat × HD)} (h : JHm X ct c n hs l) (ht : ExT X.K ct n) : ∃ m, HdMix X hs m ∧ ∀ {G : Hp} {E : Ends} {x : Ex} {e : Env}, n.contains x.c = true → PostS X.K ct c W G E (handM x e l) → ∀ G' H' σ' cls dd, Same G G' → Rel X.K ct c G' H' e σ' → RE X.K ct G' x cls dd → wMix X.K W E m cls dd σ' H' := by
  induction h with
  | nil => exact ⟨[], .nil, fun hx p G' H' σ' cls dd s R h => p G' H' σ' cls dd s R h⟩
  | @plain x k s0 ss p1 p2 hs l d hk hm hg hdb ok r ih =>
    obtain ⟨m, h1, h2⟩ := ih
    refine ⟨(.ref (ct k), none, fun _ _ _ => tCanS X.K ct c W0 d) :: m, .plain ⟨hg, hdb, .inl hm⟩ (fun q ob cls dd pp _ _ => (ok q ob pp).can) h1, fun {G E y e} hx p G' H' σ' cls dd s R h => ?_⟩
    obtain ⟨e1, _⟩ := id h
    unfold handM at p
    refine ⟨y.c == k, by rw [e1]; exact ht _ _ hx hk, fun z => ?_, fun z q hq => ?_⟩
    · rw [z] at p; exact h2 hx p G' H' σ' cls dd s R h
    · rw [z] at p
      exact ⟨G', e, R, PostS.mono (postNo p) s⟩
  | @named x nm k i s0 ss p1 p2 hs l hd hk hm hg hdb nd hi hl ok r ih =>
    obtain ⟨m, h1, h2⟩ := ih
    refine ⟨(.ref (ct k), some i, tNm X.K ct c i k hd) :: m, .named ⟨hg, hdb, .inl hm⟩ nd hi hl (fun q ob cls dd pp hz hf => ok q ob cls dd pp hz hf) h1, fun {G E y e} hx p G' H' σ' cls dd s R h => ?_⟩
    obtain ⟨e1, _⟩ := id h
    unfold handM at p
    refine ⟨y.c == k, by rw [e1]; exact ht _ _ hx hk, fun z => ?_, fun z q hq => ?_⟩
    · rw [z] at p; exact h2 hx p G' H' σ' cls dd s R h
    · rw [z] at p
      exact ⟨E, G', e, σ', y, rfl, rfl, hq, by simpa using z, R, h, PostS.mono (postNo p) s⟩
theorem js_tryM {n : List Nat} {body : List Stmt} {h0 : ExceptHandler} {hs : List ExceptHandler} {l : List (Nat × HD)} {b : DS} {pos : Pos} (ht : ExT X.K ct n) (tk : Takes X W)
    (hb : ∀ (W : WX) (pn : List (Addr × Obj)) (xe : Value → Shared → Prop), Takes (X.tr pn xe) W → PassesOwn (model X.prog X.w) X.A X.env xe → JSs (X.tr pn xe) ct c W body b) (hh : JHm X ct c n (h0 :: hs) l)
    (st : X.stack = X.env :: X.outer := by rfl) (fr : X.env.frame = some X.env.locals := by rfl) : JS X ct c W (.Try body (h0 :: hs) [] [] pos) (sTryM n b l) := by
  obtain ⟨m, h1, h2⟩ := mix_ok (W := W) hh ht
  refine ⟨_, ps_try_mix (tb := fun W => tCanS X.K ct c W b) st fr tk (fun W pp xe t p => (hb W pp xe t p).can) h1, fun G H env σ E r p => ?_⟩
  refine ⟨G, env, r, ?_⟩
  unfold sTryM at p
  cases q : b env with
  | ex x e2 =>
    rw [q] at p
    dsimp only at p
    cases z : n.contains x.c with
    | false => rw [z] at p; exact p.elim
    | true => rw [z] at p; exact h2 z p
  | nx e2 => rw [q] at p; exact p
  | bk e2 => rw [q] at p; exact p
  | ct e2 => rw [q] at p; exact p
  | rt rv e2 => rw [q] at p; exact p
  | rn rv e2 => rw [q] at p; exact p
  | no => rw [q] at p; exact p
end
end Dn

namespace Dn
open PySem PySem.Spec PyProof.Rows L2
/-! errors as values: X(), X(v), e.f, isinstance(e, C) -/
section
open PySem.W PySem.Calls
variable {prog : Program} {w : World} {A : Around} {E : Value → Shared → Prop} {s : Shared} {K : Frag} {x D : Addr} {ox : Obj} {od : Option Obj}
theorem class_bind (T : ExcC K D) : findObj K D od "__class__" = some (.bind (.builtin "getset_descriptor.__get__") (.builtin "object.__class__")) := by
  have hc : (clsIn K D).isSome = true := by obtain ⟨cd, hc, _⟩ := any_some T.hd; rw [hc]; rfl
  cases od with
  | none => exact findObj_dataN hc T.ha T.hn T.ht
  | some o => exact findObj_data hc T.ha T.hn T.ht
theorem err_class {Q : Option Value → Shared → Prop} (T : ExcC K D) (X : K.In s.heap) (I : InstAt s.heap x ox D od) (h : Q (some (.ref D)) { s with toks := s.toks + 1 }) : wpAny (model prog w) A (getAttr? (.ref x) "__class__") Q E s := by
  obtain ⟨hp, g, d, t, os⟩ := s
  have L0 := I.type (M := model prog w)
  have L1 := looks_findIn (M := model prog w) X T.hg
  have L2 := looks_findIn (M := model prog w) X T.hk
  have L3 := looks_find (M := model prog w) X I (class_bind T)
  have sub : Looks (model prog w) hp (isInstance (.ref x) (.type "BaseException")) true := L0.andThen (looks_subIn X T.hs)
  have n1 : (false && onTheHeap (Value.builtin "BaseException.__getattribute__")) = false := rfl
  have n2 : (Value.builtin "BaseException.__getattribute__" == Value.builtin "object.__getattribute__") = false := by decide +kernel
  have n3 : (onTheHeap (Value.ref D) && Value.builtin "BaseException.__getattribute__" == Value.builtin "object.__getattribute__") = false := by rw [n2]; rfl
  unfold getAttr? getAttrBy? getAttrBy
  refine wpAny_bind (wpAny_mkText (wpAny_bind (wpAny_attempt (wpAny_holding (wpAny_bind (L0.at (wpAny_bind (L1.at ?_))))))))
  show wpAny _ _ (if (onTheHeap (Value.ref D) && Value.builtin "BaseException.__getattribute__" == Value.builtin "object.__getattribute__") = true then _ else _) _ _ _
  rw [n3, if_neg Bool.false_ne_true]
  unfold getAttrByItsOwn hookBefore
  refine wpAny_bind ?_
  rw [if_pos (show onTheHeap (Value.ref D) = true from rfl)]
  refine L2.at (wpAny_bind (wpAny_attempt (wpAny_holding ?_)))
  unfold callGetattribute
  rw [n1, if_neg Bool.false_ne_true]
  unfold boundAndCalled
  rw [PySem.F.excAttr_ValueError.ga.bind (.ref x)]
  refine wpAny_bind (wpAny_pure (wpAny_call (codeAny_call_builtin PySem.F.excAttr_ValueError.ga.plain PySem.F.entry_bexc_ga ?_)))
  refine @check_slot (model prog w) _ _ ⟨hp, g, d, t + 1, os⟩ "BaseException.__getattribute__" "BaseException" "__getattribute__" (.ref x) [.str "__class__" t] [] _ (by decide +kernel) (by decide +kernel) sub (PySem.F.args_bexc_ga (.ref x) (.str "__class__" t)) ?_
  unfold Builtin.«object.__getattribute__»
  refine wpAny_bind (wpAny_of_eq (a := ((Value.ref x : Value), [Value.str "__class__" t])) (by first | rfl | (simp only [slotArgs]; rfl)) ?_)
  refine wpAny_bind (wpAny_pure (wpAny_bind (L0.at (wpAny_bind (L3.at ?_)))))
  show wpAny _ _ (holding [Value.builtin "object.__class__"] (call (.builtin "getset_descriptor.__get__") [.builtin "object.__class__", .ref x, .ref D]) >>= ret) _ _ _
  refine wpAny_bind (wpAny_holding (wpAny_call (class_get (s := ⟨hp, g, d, t + 1, os⟩) (ox := ox) (od := od) X I T.hm (wpAny_pure ?_))))
  show wpAny _ _ (handedOut (.ref D)) _ _ _
  rw [handedOut_of (v := .ref D) rfl]
  first
    | exact wpAny_pure (wpAny_pure h)
    | exact wpAny_pure h
    | exact wpAny_pure (wpAny_bind (wpAny_pure (wpAny_pure h)))
theorem kit_err (T : ExcC K D) : KitX K (.ref x) (.ref D) (fun h => InstAt h x ox D od) where
  ty := fun _ _ _ I => I.type
  it := fun _ _ X _ => by
    obtain ⟨cd, hc, _⟩ := any_some T.hd
    unfold clsIn at hc
    split at hc
    · rename_i o
      intro A' Q' E' s' k q
      unfold isType loadHead
      exact wpAny_bind (wpAny_loadPart (k _ _ (X _ _ o)) (wpAny_pure q))
    · cases hc
  ne := fun h tp dd its n sl X e => by
    obtain ⟨cd, hc, _⟩ := any_some T.hd
    refine Bool.eq_false_iff.mpr fun q => ?_
    have z : D = tp := Value.ref.inj (beq_iff_eq.mp q)
    subst z
    unfold clsIn at hc
    split at hc
    · rename_i o
      have z := (X _ _ o).symm.trans e
      cases z
    · cases hc
  ca := fun X I k => err_class T X I k
end
/-! ### values -/
section
variable {X : Cx} {ct : Nat → Addr} {c : Cf} {W : WX} {K : PySem.W.Frag} {pins : List (Addr × Obj)} {σ : L2.St} {G H : Hp} {s : Shared}
/-- what makes an exception also makes it a value -/
theorem pe_made {e : Expr} {tm : L2.St → Hp → XK → Prop} (hm : PMk X e tm) : PE X e (fun σ H Q => tm σ H fun cls d H' => ∀ a, H' a = none → Q (.ref a) (upd H' a (ExV cls d a))) := by
  refine ⟨fun pins s σ H Q I h => ?_⟩
  refine wpAny_mono (hm pins s σ H _ I h) (fun u s1 hu => ?_) fun _ _ x => x
  obtain ⟨a, oe, vs, sI, H', cls, d, rfl, J, k, hne, ha, hz, hd, h1, na, os, ag, r, q⟩ := hu
  have nw : ObjOk X.prog X.w (upd H' a (ExV cls d a)) s1.heap a (ExV cls d a) := ⟨⟨oe, vs, ha, hz, hd⟩, ⟨oe, ha⟩, fun _ _ ⟨o, v, q, r⟩ k => ⟨o, v, k o q, r⟩⟩
  have J2 := J.laidN (t' := s1.toks) k hne na nw
  exact ⟨.ref a, _, ⟨J2.ok, os.trans J2.os, ag, J2.base, J2.loc, J2.cell, J2.free, J2.freeC, J2.pin, J2.hok, J2.len⟩, rfl, q a na⟩
/-- an exception object of the class at C -/
def IsErr (H : Hp) (a C : Addr) : Prop := H a = some (ExV (.ref C) none a) ∨ ∃ dx fs, H a = some (ExV (.ref C) (some dx) a) ∧ H dx = some (.xd fs)
theorem err_inst {a C : Addr} (I : Inv X pins σ H s) (h : IsErr H a C) : ∃ ox od, PySem.W.InstAt s.heap a ox C od := by
  rcases h with h | ⟨dx, fs, h, hd⟩
  · have z : ObjOk X.prog X.w H s.heap a (ExV (.ref C) none a) := I.hok a _ h
    obtain ⟨⟨oe, vs, h1, h2, h3⟩, _⟩ := z
    exact ⟨oe, none, h1, h2.1, by unfold PySem.W.notCls; rw [h3] <;> rfl, by rw [h2.2]; exact trivial⟩
  · have z : ObjOk X.prog X.w H s.heap a (ExV (.ref C) (some dx) a) := I.hok a _ h
    obtain ⟨⟨oe, vs, h1, h2, h3⟩, _⟩ := z
    obtain ⟨mA, hns, hr⟩ := (show ObjOk X.prog X.w H s.heap dx (.xd fs) from I.hok dx _ hd)
    obtain ⟨od, ho, hl⟩ := lookIn_ns hns
    exact ⟨oe, some od, h1, h2.1, by unfold PySem.W.notCls; rw [h3] <;> rfl, by rw [h2.2]; exact ho⟩
/-- isinstance(e, C) -/
def rIsX (K : PySem.W.Frag) : List V → Hp → VK → Prop := fun xs H Q => ∃ (a C : Addr) (k : V) (u : Value) (b : Bool), xs = [.ref a, k] ∧ IsErr H a C ∧ ExcC K C ∧ ClsV k u ∧ PySem.W.kitOne K (.ref C) u = some b ∧ Q (.bl b) H
theorem call_isX : CallR X (.builtin "isinstance") (rIsX X.K) := by
  intro pins s σ H xs us Q I r h
  obtain ⟨a, C, k, u, b, rfl, ie, T, kv, e, q⟩ := h
  obtain ⟨u1, u2, rfl, r1, r2⟩ := vals2 r
  have e2 := kv.eq r2
  subst e2
  cases (show u1 = Value.ref a from r1)
  obtain ⟨ox, od, J⟩ := err_inst I ie
  exact PySem.W.kia_one (kit_err T) I.kIn J e (fun z => nomatch z) fun tk => ⟨.bl b, H, I.tok tk, rfl, q⟩
/-- e.f -/
theorem pe_xfV {e : Expr} {te : TE} {pos : Pos} {n : Str} (he : PE X e te) (hb : attributeBase e n X.env (eval e X.env) = eval e X.env := by rfl) :
    PE X (.Attribute e n pos) (fun σ H Q => te σ H fun x H1 => ∃ (a C dd : Addr) (fs : List (Str × V)) (v : V), x = .ref a ∧ H1 a = some (ExV (.ref C) (some dd) a) ∧ XfC X.K C ∧ PySem.W.findIn X.K (.ref C) n = some none ∧ H1 dd = some (.xd fs) ∧ fs.lookup n = some v ∧ Q v H1) := by
  refine ⟨fun pins s σ H Q I h => ?_⟩
  refine attr_of hb (thn (he.run pins s σ H _ I h) fun u s1 hh => ?_)
  obtain ⟨x, H1, I1, rx, a, C, dd, fs, v, rfl, ha, T, hno, hd, l, q⟩ := hh
  obtain rfl : u = Value.ref a := rx
  have z : ObjOk X.prog X.w H1 s1.heap a (ExV (.ref C) (some dd) a) := I1.hok a _ ha
  obtain ⟨⟨oe, vs, h1, h2, h3⟩, _⟩ := z
  obtain ⟨mA, hns, hr⟩ := (show ObjOk X.prog X.w H1 s1.heap dd (.xd fs) from I1.hok dd _ hd)
  obtain ⟨od, ho, hl⟩ := lookIn_ns hns
  obtain ⟨u, hu, ru⟩ := RelO.some_of (v := v) (o := mA n) (by rw [← l]; exact hr n)
  have J : PySem.W.InstAt s1.heap a oe C (some od) := ⟨h1, h2.1, by unfold PySem.W.notCls; rw [h3] <;> rfl, by rw [h2.2]; exact ho⟩
  exact HandSPX.exc_get I1.kIn J T.ga T.gg T.exC (PySem.W.findObj_own T.hdC hno rfl (by rw [hl, hu])) (handed_of ru) ⟨v, H1, I1.tok _, ru, q⟩
/-! ### rules -/
theorem je_mk0 {n : Nat} {x : Str} {p pos : Pos} (T : XTxt X.K X.mg ct x n) (hg : Gl X x := by rfl) (hdb : (x == ("__debug__" : Str)) = false := by decide) :
    JE X ct c W false (.Call (.Name x p) [] [] pos) (dC (.exc n "" [])) :=
  ⟨_, pe_made (pmk_own0 PySem.F.excBase_ValueError T.xC T.gC T.kC (raises_own T.bC T.tC) hg hdb), fun G H env σ Q r q => fun a ha => by
    have g := Grow.new (o := ExV (.ref (ct n)) none a) r.sub ha
    exact q _ _ _ g.stp (r.grow g) (.exc0 upd_same) (fun z => by cases z)⟩
def dMk (n : Nat) (f : Str) (a : DE) : DE := fun env => match a env with
  | .ok (.val d) e1 => .ok (.val (.exc n f [d])) e1
  | .ok (.slot _) _ => .no
  | .ex q e1 => .ex q e1
  | .no => .no
theorem je_mk1 {k n : Nat} {x f : Str} {e : Expr} {d : DE} {p pos : Pos} (T : XTxtA X.K X.mg ct x n f) (hr : Room (k + 2) X.A) (he : JE X ct c W false e d) (hg : Gl X x := by rfl) (hdb : (x == ("__debug__" : Str)) = false := by decide)
    (hs : starEach [e] X.env = (false, eval e X.env) :: starEach [] X.env := by rfl) : JE X ct c W false (.Call (.Name x p) [e] [] pos) (dMk n f d) := by
  obtain ⟨te, pe, se⟩ := he
  obtain ⟨fI, fd, iC, tI, hb, F⟩ := T.ini
  refine ⟨_, pe_made (pmk_oex T.ox iC tI (F X.prog X.w X.base) (hr.mono (by omega)) hb .nil (fun pins σ H s e s' I z => by
    obtain ⟨_, _, _, _, _, _, _, _, _, _, _, _, z⟩ := z
    exact z.elim) hg T.gC (pa_cons pe pa_nil hs) hdb hs rfl), fun G H env σ Q r p => ?_⟩
  refine se G H env σ _ r ?_
  unfold dMk at p
  cases ea : d env with
  | no => rw [ea] at p; exact p
  | ex q e1 => rw [ea] at p; exact p
  | ok rv e1 =>
    rw [ea] at p
    intro G1 H1 v1 s1 R1 X1 _
    cases rv with
    | slot i => exact p.elim
    | val dv =>
      refine ⟨show ([v1] : List V).length ≤ 1000 by simp, fun a ha => ?_⟩
      refine ⟨a, v1, rfl, upd_same, fun dx hdx hne => ⟨rfl, dx, [(f, v1)], upd_same, ?_, ?_, ?_⟩⟩
      · rw [upd_ne hne, upd_same]
      · rw [upd_ne hne] at hdx; exact hdx
      · have hdx1 : H1 dx = none := by rw [upd_ne hne] at hdx; exact hdx
        have eH : upd (del (upd (upd (upd H1 a (exo a (ct n) none)) dx (exd dx [(f, v1)])) a (exo a (ct n) (some dx))) a) dx (.xd [(f, v1)]) = upd H1 dx (.xd [(f, v1)]) := by
          funext b
          by_cases hb1 : b = dx
          · rw [hb1, upd_same, upd_same]
          · rw [upd_ne hb1, upd_ne hb1]
            by_cases hb2 : b = a
            · rw [hb2, del_same, ha]
            · rw [del_ne hb2, upd_ne hb2, upd_ne hb1, upd_ne hb2]
        rw [eH]
        intro b hb2
        have g1 : Grow G1 H1 (upd G1 dx (.xd [(f, v1)])) (upd H1 dx (.xd [(f, v1)])) := Grow.new R1.sub hdx1
        have g2 := Grow.new (o := ExV (.ref (ct n)) (some dx) b) g1.s hb2
        have gr := g1.trans g2
        have hbd : dx ≠ b := fun z => by rw [z, upd_same] at hb2; cases hb2
        exact p _ _ _ (s1.trans gr.stp) (R1.grow gr) (.exc1 upd_same (by rw [upd_ne hbd, upd_same]) (RV.mono gr.g X1)) (fun z => by cases z)
/-! the classes asked -/
def subE (n m : Nat) : Bool := n == m || m == 11
structure IsX (K : PySem.W.Frag) (ct : Nat → Addr) (L : List Nat) : Prop where
  ex : ∀ n, L.contains n = true → ExcC K (ct n)
  one : ∀ n m, L.contains n = true → (11 :: L).contains m = true → PySem.W.kitOne K (.ref (ct n)) (.ref (ct m)) = some (subE n m)
  val : ∀ n, L.contains n = true → PySem.W.kitOne K (.ref (ct n)) (.type "ValueError") = some true
def gIsX (L : List Nat) (m : Nat) : D → Option D
  | .exc n _ _ => match L.contains n with | true => some (.bl (subE n m)) | false => none
  | _ => none
def gIsV (L : List Nat) : D → Option D
  | .exc n _ _ => match L.contains n with | true => some (.bl true) | false => none
  | _ => none
theorem err_of {n : Nat} {f : Str} {fs : List D} {v : V} (s : Same G H) (r : RD K ct G H (.exc n f fs) v) : ∃ a, v = .ref a ∧ IsErr H a (ct n) := by
  rcases r with r | r
  · cases r with
    | exc0 h => exact ⟨_, rfl, .inl (s _ _ h)⟩
    | exc1 h h2 _ => exact ⟨_, rfl, .inr ⟨_, _, s _ _ h, s _ _ h2⟩⟩
  · exact r.elim
theorem je_isX {L : List Nat} {m : Nat} {T : Str} {e : Expr} {d : DE} {p p2 pos : Pos} (S : IsX X.K ct L) (hm : X.mg "isinstance" = none) (hT : X.mg T = some (.ref (ct m))) (hL : (11 :: L).contains m = true) (he : JE X ct c W false e d) (hg : Gl X "isinstance" := by rfl) (hgT : Gl X T := by rfl) (hdb : (T == ("__debug__" : Str)) = false := by decide)
    (hst : starEach [e, .Name T p2] X.env = (false, eval e X.env) :: starEach [.Name T p2] X.env := by rfl) (hst2 : starEach [.Name T p2] X.env = (false, eval (.Name T p2) X.env) :: starEach [] X.env := by rfl) (hpl : (backTo pos (starEach [.Name T p2] X.env)).any (·.1) = false := by rfl) :
    JE X ct c W false (.Call (.Name "isinstance" p) [e, .Name T p2] [] pos) (dUn (gIsX L m) d) := by
  obtain ⟨te, pe, se⟩ := he
  have pT : PE X (.Name T p2) (tC (.ref (ct m))) := pe_glob hgT hT rfl hdb
  refine ⟨_, pe_callB call_isX hg hm (by decide +kernel) (pa_cons pe (pa_cons pT pa_nil hst2) hst) (by decide) (by decide) hst hpl, ?_⟩
  refine sim_un (r := fun x H Q => rIsX X.K [x, .ref (ct m)] H Q) (fun G H dx x d Q s r e o => ?_) se
  unfold gIsX at e
  split at e
  · rename_i n f fs
    cases z : L.contains n with
    | false => rw [z] at e; cases e
    | true =>
      rw [z] at e
      cases e
      obtain ⟨a, rfl, ie⟩ := err_of s r
      exact ⟨a, ct n, _, _, _, rfl, ie, S.ex n z, .own _, S.one n m z hL, o.val s (.bl _)⟩
  · cases e
theorem je_isV {L : List Nat} {e : Expr} {d : DE} {p p2 pos : Pos} (S : IsX X.K ct L) (hm : X.mg "isinstance" = none) (hT : X.mg "ValueError" = none) (he : JE X ct c W false e d) (hg : Gl X "isinstance" := by rfl) (hgT : Gl X "ValueError" := by rfl)
    (hst : starEach [e, .Name "ValueError" p2] X.env = (false, eval e X.env) :: starEach [.Name "ValueError" p2] X.env := by rfl) (hst2 : starEach [.Name "ValueError" p2] X.env = (false, eval (.Name "ValueError" p2) X.env) :: starEach [] X.env := by rfl) (hpl : (backTo pos (starEach [.Name "ValueError" p2] X.env)).any (·.1) = false := by rfl) :
    JE X ct c W false (.Call (.Name "isinstance" p) [e, .Name "ValueError" p2] [] pos) (dUn (gIsV L) d) := by
  obtain ⟨te, pe, se⟩ := he
  have pT : PE X (.Name "ValueError" p2) (tC (.ty "ValueError")) := pe_bltn (v := .ty "ValueError") hgT hT (by decide +kernel) rfl (by decide) (by decide)
  refine ⟨_, pe_callB call_isX hg hm (by decide +kernel) (pa_cons pe (pa_cons pT pa_nil hst2) hst) (by decide) (by decide) hst hpl, ?_⟩
  refine sim_un (r := fun x H Q => rIsX X.K [x, .ty "ValueError"] H Q) (fun G H dx x d Q s r e o => ?_) se
  unfold gIsV at e
  split at e
  · rename_i n f fs
    cases z : L.contains n with
    | false => rw [z] at e; cases e
    | true =>
      rw [z] at e
      cases e
      obtain ⟨a, rfl, ie⟩ := err_of s r
      exact ⟨a, ct n, _, _, _, rfl, ie, S.ex n z, .ty _, S.val n z, o.val s (.bl _)⟩
  · cases e
/-- e.f of an error -/
def gXf (L : List Nat) (f : Str) : D → Option D
  | .exc n g [d] => match L.contains n && decide (g = f) with | true => some d | false => none
  | _ => none
theorem je_xfV {L : List Nat} {f : Str} {e : Expr} {d : DE} {pos : Pos} (T : ∀ n, L.contains n = true → XfT X.K ct n f) (he : JE X ct c W false e d) (hb : attributeBase e f X.env (eval e X.env) = eval e X.env := by rfl) :
    JE X ct c W false (.Attribute e f pos) (dUn (gXf L f) d) := by
  obtain ⟨te, pe, se⟩ := he
  refine ⟨_, pe_xfV pe hb, ?_⟩
  refine sim_un (r := fun x H1 Q => ∃ (a C dd : Addr) (fs : List (Str × V)) (v : V), x = .ref a ∧ H1 a = some (ExV (.ref C) (some dd) a) ∧ XfC X.K C ∧ PySem.W.findIn X.K (.ref C) f = some none ∧ H1 dd = some (.xd fs) ∧ fs.lookup f = some v ∧ Q v H1) (fun G H dx x d Q s r e o => ?_) se
  unfold gXf at e
  split at e
  · rename_i n g d'
    cases z : L.contains n && decide (g = f) with
    | false => rw [z] at e; cases e
    | true =>
      rw [z] at e
      cases e
      rw [Bool.and_eq_true] at z
      obtain ⟨z1, z2⟩ := z
      have := of_decide_eq_true z2
      subst this
      rcases r with r | r
      · cases r with
        | exc1 h h2 rv => exact ⟨_, _, _, _, _, rfl, s _ _ h, (T n z1).xf, (T n z1).no, s _ _ h2, by simp [List.lookup], o.val s rv⟩
      · exact r.elim
  · cases e
theorem xfl_nil {f : Str} : ∀ n, ([] : List Nat).contains n = true → XfT K ct n f := fun n h => by simp at h
theorem xfl_cons {f : Str} {m : Nat} {L : List Nat} (h : XfT K ct m f) (t : ∀ n, L.contains n = true → XfT K ct n f) : ∀ n, (m :: L).contains n = true → XfT K ct n f := fun n hn => by
  rcases List.mem_cons.mp (List.contains_iff_mem.mp hn) with z | z
  · subst z; exact h
  · exact t n (List.contains_iff_mem.mpr z)
end
/-! the head's facts -/
def excCB (K : PySem.W.Frag) (D : Addr) : Bool := He.eqO (PySem.W.findIn K (.ref D) "__getattribute__") (some (some (.builtin "BaseException.__getattribute__"))) && (He.eqO (PySem.W.findIn K (.ref D) "__getattr__") (some none) && (decide (PySem.W.subIn K (.ref D) (.type "BaseException") = some true) && (PySem.W.hasDictIn K D &&
  (He.eqO (PySem.W.findIn K (.ref D) "__class__") (some (some (.builtin "object.__class__"))) && (He.eqO (PySem.W.specialIn K (.builtin "object.__class__") "__get__") (some (some (.builtin "getset_descriptor.__get__"))) && (decide (PySem.W.takesIn K (.builtin "object.__class__") = some true) && decide (PySem.W.mroIn K D (.type "object") = some true)))))))
theorem excCB_ok {K : PySem.W.Frag} {D : Addr} (h : excCB K D = true) : ExcC K D := by
  obtain ⟨h1, h⟩ := He.ba h
  obtain ⟨h2, h⟩ := He.ba h
  obtain ⟨h3, h⟩ := He.ba h
  obtain ⟨h4, h⟩ := He.ba h
  obtain ⟨h5, h⟩ := He.ba h
  obtain ⟨h6, h⟩ := He.ba h
  obtain ⟨h7, h8⟩ := He.ba h
  exact ⟨He.eqO_ok h1, He.eqO_ok h2, of_decide_eq_true h3, h4, He.eqO_ok h5, He.eqO_ok h6, of_decide_eq_true h7, of_decide_eq_true h8⟩
def isXB (K : PySem.W.Frag) (L : List Nat) : Bool := L.all fun n => excCB K (ctK K n) && (decide (PySem.W.kitOne K (.ref (ctK K n)) (.type "ValueError") = some true) && (11 :: L).all fun m => decide (PySem.W.kitOne K (.ref (ctK K n)) (.ref (ctK K m)) = some (subE n m)))
theorem isXB_ok {K : PySem.W.Frag} {L : List Nat} (h : isXB K L = true) : IsX K (ctK K) L := by
  unfold isXB at h
  rw [List.all_eq_true] at h
  refine ⟨fun n hn => ?_, fun n m hn hm => ?_, fun n hn => ?_⟩
  · exact excCB_ok (He.ba (h n (List.contains_iff_mem.mp hn))).1
  · have z := (He.ba (He.ba (h n (List.contains_iff_mem.mp hn))).2).2
    rw [List.all_eq_true] at z
    exact of_decide_eq_true (z m (List.contains_iff_mem.mp hm))
  · exact of_decide_eq_true (He.ba (He.ba (h n (List.contains_iff_mem.mp hn))).2).1
end Dn

namespace Dn
open PySem PySem.Spec PyProof.Rows L2
/-! objects of an own class: fields, methods, making, a property, len -/
section
variable {K : PySem.W.Frag} {ct : Nat → Addr} {G : Hp}
theorem RFs.look : ∀ {xs : List (Str × D)} {vs : List (Str × V)}, RFs K ct G xs vs → ∀ {f : Str} {d : D}, xs.lookup f = some d → ∃ v, vs.lookup f = some v ∧ RV K ct G d v
  | _, _, .nil, f, d, h => by cases h
  | _, _, .cons (k := k) r t, f, d, h => by
    rw [List.lookup_cons] at h ⊢
    by_cases e : (f == k) = true
    · rw [e] at h ⊢; cases h; exact ⟨_, rfl, r⟩
    · rw [Bool.not_eq_true] at e; rw [e] at h ⊢; exact RFs.look t h
theorem RFs.lookNo : ∀ {xs : List (Str × D)} {vs : List (Str × V)}, RFs K ct G xs vs → ∀ {f : Str}, xs.lookup f = none → vs.lookup f = none
  | _, _, .nil, f, h => rfl
  | _, _, .cons (k := k) r t, f, h => by
    rw [List.lookup_cons] at h ⊢
    by_cases e : (f == k) = true
    · rw [e] at h; cases h
    · rw [Bool.not_eq_true] at e; rw [e] at h ⊢; exact RFs.lookNo t h
theorem RFs.len : ∀ {xs : List (Str × D)} {vs : List (Str × V)}, RFs K ct G xs vs → xs.length = vs.length
  | _, _, .nil => rfl
  | _, _, .cons _ t => by rw [List.length_cons, List.length_cons, t.len]
def putFD (f : Str) (d : D) : List (Str × D) → List (Str × D)
  | [] => [(f, d)]
  | (g, x) :: r => if g = f then (g, d) :: r else (g, x) :: putFD f d r
theorem RFs.put {f : Str} {d : D} {v : V} (hv : RV K ct G d v) : ∀ {xs : List (Str × D)} {vs : List (Str × V)}, RFs K ct G xs vs → RFs K ct G (putFD f d xs) (putF f v vs)
  | _, _, .nil => .cons hv .nil
  | _, _, .cons (k := k) r t => by
    unfold putFD putF
    by_cases e : k = f
    · rw [if_pos e, if_pos e]; exact .cons hv t
    · rw [if_neg e, if_neg e]; exact .cons r (RFs.put hv t)
end
section
variable {X : Cx} {ct : Nat → Addr} {c : Cf} {W : WX} {K : PySem.W.Frag}
theorem own_obj {G H : Hp} {env : Env} {σ : L2.St} {i n : Nat} {xs : List (Str × D)} (R : Rel K ct c G H env σ) (hi : i ∈ c.own) (h : look env i = some (.obj n xs)) : ∃ p dx us, σ[i]? = some (some (.ref p)) ∧ H p = some (.ins (ct n) dx us) ∧ G p = none ∧ RFs K ct G xs us := by
  obtain ⟨v, hv, _, q⟩ := R.slot i _ (of_look h)
  obtain ⟨q1, _⟩ := (q hi).live (fun _ z => nomatch z)
  obtain ⟨p, o, rfl, _, _⟩ := q1.top
  obtain ⟨dx, us, a, b, r⟩ := q1
  exact ⟨p, dx, us, hv, a, b, r⟩
/-- o.f of the own object in slot i, of the class n -/
def dFld (i n : Nat) (f : Str) : DE := fun env => match look env i with
  | some (.obj k fs) => match decide (k = n) with
    | true => match fs.lookup f with | some d => .ok (.val d) env | none => .no
    | false => .no
  | _ => .no
theorem sim_fld {i n : Nat} {f : Str} (hi : i ∈ c.own) (T : Cls K (ct n)) (hno : NoAttr K (ct n) f) : SimE K ct c W false (tFld K (tVar i) f) (dFld i n f) := fun G H env σ Q r p => by
  unfold dFld at p
  split at p
  · rename_i k fs e
    cases hk : decide (k = n) with
    | false => rw [hk] at p; exact p.elim
    | true =>
      rw [hk] at p
      have hk := of_decide_eq_true hk
      subst hk
      obtain ⟨a, dx, us, hσ, ha, ga, rf⟩ := own_obj r hi e
      cases hf : fs.lookup f with
      | none => rw [hf] at p; exact p.elim
      | some d =>
        rw [hf] at p
        obtain ⟨v, hv, rv⟩ := rf.look hf
        exact ⟨.ref a, hσ, a, ct k, dx, us, v, rfl, ha, T, hno, hv, p G H v .refl r rv (fun z => nomatch z)⟩
  · exact p.elim
theorem je_fld {i n : Nat} {x f : Str} {p pos : Pos} (T : Cls X.K (ct n)) (hno : NoAttr X.K (ct n) f) (hi : decide (i ∈ c.own) = true) (hN : X.N[i]? = some x := by rfl) (hv : Vis X.env.scope x := by first | exact Or.inl rfl | exact Or.inr (Or.inl rfl) | exact Or.inr (Or.inr rfl)) (hd : (x == ("__debug__" : Str)) = false := by decide) (hcd : (x == ("__classdict__" : Str)) = false := by decide)
    (hb : attributeBase (.Name x p) f X.env (eval (.Name x p) X.env) = eval (.Name x p) X.env := by rfl) : JE X ct c W false (.Attribute (.Name x p) f pos) (dFld i n f) :=
  ⟨_, pe_fld (pe_var hN hv hd hcd) hb, sim_fld (of_decide_eq_true hi) T hno⟩
/-- o.f = e -/
def sFldSet (i n : Nat) (f : Str) (a : DE) : DS := fun env => match a env with
  | .ok (.val d) e => match look e i with
    | some (.obj k fs) => match decide (k = n) && decide (fs.length < 1000) with
      | true => .nx (e.set i (some (.obj k (putFD f d fs))))
      | false => .no
    | _ => .no
  | .ok _ _ => .no
  | .ex q e => .ex q e
  | .no => .no
theorem js_fld {i n : Nat} {x f : Str} {e : Expr} {d : DE} {p pos pos' : Pos} (T : Cls X.K (ct n)) (hno : NoAttr X.K (ct n) f) (hi : decide (i ∈ c.own) = true) (he : JE X ct c W false e d) (hN : X.N[i]? = some x := by rfl) (hv : Vis X.env.scope x := by first | exact Or.inl rfl | exact Or.inr (Or.inl rfl) | exact Or.inr (Or.inr rfl)) (hd : (x == ("__debug__" : Str)) = false := by decide) (hcd : (x == ("__classdict__" : Str)) = false := by decide)
    (hs : swapsWith e (some (.Attribute (.Name x p) f pos')) pos.line X.env = pure false := by rfl) : JS X ct c W (.Assign [.Attribute (.Name x p) f pos'] e pos) (sFldSet i n f d) := by
  obtain ⟨t, p1, s1⟩ := he
  have hi := of_decide_eq_true hi
  refine ⟨_, ps_fld (pe_var hN hv hd hcd) p1 hs, fun G H env σ E r p => ?_⟩
  refine s1 G H env σ _ r ?_
  unfold sFldSet at p
  cases ea : d env with
  | no => rw [ea] at p; exact p
  | ex q e1 => rw [ea] at p; exact fun G1 H1 cls dd s R h => p G1 H1 σ cls dd s.g R h
  | ok rv e1 =>
    rw [ea] at p
    cases rv with
    | slot j => exact p.elim
    | val dv =>
      intro G1 H1 v s R h _
      dsimp only at p
      split at p
      · rename_i k fs el
        cases hk : decide (k = n) && decide (fs.length < 1000) with
        | false => rw [hk] at p; exact p.elim
        | true =>
          rw [hk] at p
          rw [Bool.and_eq_true] at hk
          have h1 := of_decide_eq_true hk.1
          have h2 := of_decide_eq_true hk.2
          subst h1
          obtain ⟨a, dx, us, hσ, ha, ga, rf⟩ := own_obj R hi el
          refine ⟨.ref a, hσ, a, ct k, dx, us, rfl, ha, T, hno, by rw [← rf.len]; exact h2, ?_⟩
          exact p G1 _ σ s.g (R.write hi hσ ga ⟨dx, _, upd_same, ga, rf.put h⟩)
      · exact p.elim
/-! methods -/
def tMethE (C : Addr) (m : Str) (sp : Sp) (E : L2.St → XK) (ta : TE) (t : TA) : TE := fun σ H Q => ta σ H fun x H1 => ∃ a dx fs, x = .ref a ∧ H1 a = some (.ins C dx fs) ∧ fs.lookup m = none ∧ t σ H1 fun vs H2 => sp (x :: vs) H2 Q (E σ)
section
variable {CX : CXT} {k : Nat} {f C : Addr} {fd : FuncData} {ps : List Str} {sp : Sp} {E : L2.St → XK} {m : Str} {pos apos : Pos} {e o : Expr} {es : List Expr} {ta : TE} {t : TA}
theorem pe_methE {pl : Sem Bool} (he : PE X o ta) (T : Cls X.K C) (hm : Meth X.K C m f) (F : FnOk X.prog X.w X.K X.mg X.base CX k f fd ps sp) (hr : Room k X.A) (hb : Binds X.K fd ps []) (hx : ∀ σ, PassesAt CX X σ (E σ)) (ha : PA X (e :: es) t)
    (h1 : starEach (e :: es) X.env = (false, eval e X.env) :: starEach es X.env := by rfl) (h2 : (backTo pos (starEach es X.env)).any (·.1) = false := by rfl)
    (ht : eval (.Call (.Attribute o m apos) (e :: es) [] pos) X.env = (do let ov ← eval o X.env; standAt apos.atName; let (f, first) ← holding [ov] (getMethod ov m pl); callWith pos f first (backTo pos (starEach (e :: es) X.env)) (backToKw pos (keywordEach [] X.env))) := by rfl) :
    PE X (.Call (.Attribute o m apos) (e :: es) [] pos) (tMethE C m sp E ta t) := by
  refine ⟨fun pins s σ H Q I h => PySem.W.methodCall_KW (pl := pl) (thn (he.run pins s σ H _ I h) fun u s1 ⟨x, K1, I1, rx, a, dx, fs, ex, ea, l, q⟩ => ?_) ht⟩
  subst ex
  obtain rfl : u = Value.ref a := rx
  refine getmeth_ok I1 ea T hm l (PySem.W.callWith_K (first := [.ref a]) (h₀ := X.base) I.ok.mod.kin hm.kp (thn (ha.run pos pins s1 σ K1 _ I1 q) fun us s2 ⟨vs, K2, I2, r, q2⟩ => ⟨I2.kIn, ?_⟩) h1 h2)
  exact run_fnS (us := .ref a :: us) (vs := .ref a :: vs) F hr hb (hx σ) I2 (.cons rfl r) q2
theorem pe_methE0 {pl : Sem Bool} (he : PE X o ta) (T : Cls X.K C) (hm : Meth X.K C m f) (F : FnOk X.prog X.w X.K X.mg X.base CX k f fd ps sp) (hr : Room k X.A) (hb : Binds X.K fd ps []) (hx : ∀ σ, PassesAt CX X σ (E σ))
    (ht : eval (.Call (.Attribute o m apos) [] [] pos) X.env = (do let ov ← eval o X.env; standAt apos.atName; let (f, first) ← holding [ov] (getMethod ov m pl); callWith pos f first (backTo pos (starEach [] X.env)) (backToKw pos (keywordEach [] X.env))) := by rfl) :
    PE X (.Call (.Attribute o m apos) [] [] pos) (tMethE C m sp E ta tNil) := by
  refine ⟨fun pins s σ H Q I h => PySem.W.methodCall_KW (pl := pl) (thn (he.run pins s σ H _ I h) fun u s1 ⟨x, K1, I1, rx, a, dx, fs, ex, ea, l, q⟩ => ?_) ht⟩
  subst ex
  obtain rfl : u = Value.ref a := rx
  exact getmeth_ok I1 ea T hm l (PySem.W.callWith_K0 (first := [.ref a]) I1.kIn hm.kp (run_fnS (us := [.ref a]) (vs := [.ref a]) F hr hb (hx σ) I1 (.cons rfl .nil) q))
end
/-- slot i holds an own object of the class n that has no field m -/
def isObj (env : Env) (i n : Nat) (m : Str) : Bool := match look env i with
  | some (.obj k fs) => decide (k = n) && (fs.lookup m).isNone
  | _ => false
def dMethO (df : DF) (i n : Nat) (m : Str) (a : DA) : DE := fun env => match isObj env i n m with
  | true => dCallIO df (aCons (dOwn i) a) env
  | false => .no
theorem isObj_ok {env : Env} {i n : Nat} {m : Str} (h : isObj env i n m = true) : ∃ fs, look env i = some (.obj n fs) ∧ fs.lookup m = none := by
  unfold isObj at h
  split at h
  · rename_i k fs e
    rw [Bool.and_eq_true] at h
    have := of_decide_eq_true h.1
    subst this
    exact ⟨fs, e, by simpa using h.2⟩
  · cases h
theorem sim_methO {na i n : Nat} {m : Str} {df : DF} {ta : TA} {a : DA} (hi : i ∈ c.own) (hn : ALen a na) (ha : SimA K ct c W ta a) : SimE K ct c W false (tMethE (ct n) m (spF K ct (na + 1) true df) (WE W) (tVar i) ta) (dMethO df i n m a) := fun G H env σ Q r p => by
  unfold dMethO at p
  cases hb : isObj env i n m with
  | false => rw [hb] at p; exact p.elim
  | true =>
    rw [hb] at p
    obtain ⟨fs, e, hm⟩ := isObj_ok hb
    obtain ⟨q, dx, us, hσ, hq, gq, rf⟩ := own_obj r hi e
    have hso : SimA K ct c W (tCons (tVar i) ta) (aCons (dOwn i) a) := fun G H env σ Q r p => by
      unfold aCons dOwn at p
      cases el : look env i with
      | none => rw [el] at p; exact p.elim
      | some d0 =>
        rw [el] at p
        obtain ⟨v, hv, _, ho⟩ := r.slot i d0 (of_look el)
        cases d0 with
        | fz d' =>
          refine ⟨v, hv, ha G H env σ _ r ?_⟩
          dsimp only at p
          obtain ⟨d2, e2, h3, _⟩ := (ho hi).resolve_left (fun z => z.1)
          cases e2
          cases eb : a env with
          | no => rw [eb] at p; exact p
          | ex q e2 => rw [eb] at p; exact fun G' H' cls dd s R e => p G' H' cls dd s R e
          | ok y e2 => rw [eb] at p; exact fun G' H' vs s R h => p G' H' _ s R (.cons (h3.mono s.g) h)
        | _ =>
          refine ⟨v, hv, ha G H env σ _ r ?_⟩
          dsimp only at p
          cases eb : a env with
          | no => rw [eb] at p; exact p
          | ex q e2 => rw [eb] at p; exact fun G' H' cls dd s R e => p G' H' cls dd s R e
          | ok y e2 => rw [eb] at p; exact fun G' H' vs s R h => p G' H' _ s R (.cons ⟨hi, hv⟩ h)
    obtain ⟨v, hv, w⟩ := sim_callIO (n := na + 1) (df := df) (alen_cons hn) hso G H env σ Q r p
    rw [hσ] at hv
    cases hv
    exact ⟨.ref q, hσ, q, dx, us, rfl, hq, rf.lookNo hm, w⟩
/-- a method of an own class as its callers see it -/
def MtT (P : Program) (w : World) (K : PySem.W.Frag) (mg : Str → Option Value) (base : Heap) (ct : Nat → Addr) (n : Nat) (m : Str) (k na : Nat) (df : DF) : Prop :=
  Cls K (ct n) ∧ ∃ (f : Addr) (fd : FuncData) (ps : List Str), FnOk P w K mg base (L2.CX P w) k f fd ps (spF K ct (na + 1) true df) ∧ Meth K (ct n) m f ∧ Binds K fd ps []
theorem je_methO {k na i n : Nat} {df : DF} {x m : Str} {e : Expr} {es : List Expr} {a : DA} {p pos apos : Pos} {pl : Sem Bool} (F : MtT X.prog X.w X.K X.mg X.base ct n m k na df) (hr : Room k X.A) (tk : Takes X W) (ha : JA X ct c W (e :: es) a) (hn : ALen a na) (hi : decide (i ∈ c.own) = true)
    (hN : X.N[i]? = some x := by rfl) (hv : Vis X.env.scope x := by first | exact Or.inl rfl | exact Or.inr (Or.inl rfl) | exact Or.inr (Or.inr rfl)) (hd : (x == ("__debug__" : Str)) = false := by decide) (hcd : (x == ("__classdict__" : Str)) = false := by decide)
    (h1 : starEach (e :: es) X.env = (false, eval e X.env) :: starEach es X.env := by rfl) (h2 : (backTo pos (starEach es X.env)).any (·.1) = false := by rfl)
    (ht : eval (.Call (.Attribute (.Name x p) m apos) (e :: es) [] pos) X.env = (do let ov ← eval (.Name x p) X.env; standAt apos.atName; let (f, first) ← holding [ov] (getMethod ov m pl); callWith pos f first (backTo pos (starEach (e :: es) X.env)) (backToKw pos (keywordEach [] X.env))) := by rfl) :
    JE X ct c W false (.Call (.Attribute (.Name x p) m apos) (e :: es) [] pos) (dMethO df i n m a) := by
  obtain ⟨t, p1, s1⟩ := ha
  obtain ⟨T, f, fd, ps, F, hm, hb⟩ := F
  exact ⟨_, pe_methE (pl := pl) (pe_var hN hv hd hcd) T hm F hr hb (fun σ => passAt tk σ) p1 h1 h2 ht, sim_methO (of_decide_eq_true hi) hn s1⟩
theorem je_methO0 {k i n : Nat} {df : DF} {x m : Str} {p pos apos : Pos} {pl : Sem Bool} (F : MtT X.prog X.w X.K X.mg X.base ct n m k 0 df) (hr : Room k X.A) (tk : Takes X W) (hi : decide (i ∈ c.own) = true)
    (hN : X.N[i]? = some x := by rfl) (hv : Vis X.env.scope x := by first | exact Or.inl rfl | exact Or.inr (Or.inl rfl) | exact Or.inr (Or.inr rfl)) (hd : (x == ("__debug__" : Str)) = false := by decide) (hcd : (x == ("__classdict__" : Str)) = false := by decide)
    (ht : eval (.Call (.Attribute (.Name x p) m apos) [] [] pos) X.env = (do let ov ← eval (.Name x p) X.env; standAt apos.atName; let (f, first) ← holding [ov] (getMethod ov m pl); callWith pos f first (backTo pos (starEach [] X.env)) (backToKw pos (keywordEach [] X.env))) := by rfl) :
    JE X ct c W false (.Call (.Attribute (.Name x p) m apos) [] [] pos) (dMethO df i n m aNil) := by
  obtain ⟨T, f, fd, ps, F, hm, hb⟩ := F
  obtain ⟨t, p1, s1⟩ := ja_nil (X := X) (ct := ct) (c := c) (W := W)
  exact ⟨_, pe_methE0 (pl := pl) (pe_var hN hv hd hcd) T hm F hr hb (fun σ => passAt tk σ) ht, sim_methO (of_decide_eq_true hi) alen_nil (fun G H env σ Q r p => p G H [] .refl r .nil)⟩
end
end Dn

namespace Dn
open PySem PySem.Spec PyProof.Rows L2
section
variable {X : Cx} {ct : Nat → Addr} {c : Cf} {W : WX} {K : PySem.W.Frag}
/-! making -/
def tMakeE (C : Addr) (sp : Sp) (E : L2.St → XK) (t : TA) : TE := fun σ H Q => t σ H fun vs H1 => ∀ x dx, H1 x = none → H1 dx = none → dx ≠ x → sp (.ref x :: vs) (upd (upd H1 dx (.own x)) x (.ins C dx [])) (fun v H2 => v = .non ∧ Q (.ref x) H2) (E σ)
section
variable {CX : CXT} {k : Nat} {f C : Addr} {fd : FuncData} {ps : List Str} {sp : Sp} {E : L2.St → XK} {x : Str} {p pos : Pos} {e : Expr} {es : List Expr} {t : TA}
theorem pe_makeE (M : Mk X.K C f) (F : FnOk X.prog X.w X.K X.mg X.base CX k f fd ps sp) (hr : Room (k + 1) X.A) (hg : Gl X x) (hm : X.mg x = some (.ref C)) (hb : Binds X.K fd ps []) (hx : ∀ σ, PassesAt CX X σ (E σ)) (ha : PA X (e :: es) t)
    (hdb : (x == ("__debug__" : Str)) = false := by decide) (h1 : starEach (e :: es) X.env = (false, eval e X.env) :: starEach es X.env := by rfl) (h2 : (backTo pos (starEach es X.env)).any (·.1) = false := by rfl) : PE X (.Call (.Name x p) (e :: es) [] pos) (tMakeE C sp E t) := by
  refine ⟨fun pins s σ H Q I h => wpAny_Call_Name_kw (ld_glob I hg hm (PySem.W.callWith_K (h₀ := X.base) I.ok.mod.kin M.kp (thn (ha.run pos pins s σ H _ I h) fun us s1 ⟨vs, K1, I1, r, q⟩ => ⟨I1.kIn, ?_⟩) h1 h2) hdb)⟩
  have go := q (s1.heap.objs.size + 1) s1.heap.objs.size (I1.hok.fresh (Nat.le_succ _)) (I1.hok.fresh (Nat.le_refl _)) (Nat.ne_of_lt (Nat.lt_succ_self _))
  have I2 := Inv.made (C := C) I1
  have r2 : Vals (V.ref (s1.heap.objs.size + 1) :: vs) (Value.ref (s1.heap.objs.size + 1) :: us) := .cons rfl r
  have hl : (Value.ref (s1.heap.objs.size + 1) :: us ++ []).length = ps.length := by
    have e := r2.length
    rw [F.len _ _ _ _ go] at e
    rw [List.append_nil]
    exact e.symm
  have bd := hb _ (Value.ref (s1.heap.objs.size + 1) :: us) I2.kIn hl
  rw [List.append_nil] at bd
  refine wpAny_call (make_map (f := f) I1.kIn M.makes M.init (beq_iff_eq.mp M.fn) (codeAny_mono (F.run _ X.stack _ _ ⟨Value.ref (s1.heap.objs.size + 1) :: us, []⟩ (Value.ref (s1.heap.objs.size + 1) :: us) _ _ (E σ) (hr.make C us []) (I2.env0.make C us []) bd r2 go) fun r s' hq => ?_))
  cases r with
  | error er => exact hx σ pins _ _ er s' I2 hq
  | ok fl =>
    cases fl with
    | ret u =>
      obtain ⟨v, K3, I3, rv, ev, q3⟩ := I2.after hq
      subst ev
      exact ⟨rv, ⟨V.ref (s1.heap.objs.size + 1), K3, I3, rfl, q3⟩⟩
    | next => exact hq.elim
    | brk => exact hq.elim
    | cont => exact hq.elim
end
/-- C(..): df is __init__, which begins with an object without fields -/
def dNewO (df : DF) (n : Nat) (a : DA) : DE := fun env => match a env with
  | .ok rvs e1 => match clean rvs with
    | some ds => match df (.obj n [] :: ds) with
      | .ok .non o => .ok (.val o) e1
      | .ex x _ => .ex x e1
      | _ => .no
    | none => .no
  | .ex q e1 => .ex q e1
  | .no => .no
theorem sim_newO {na n : Nat} {df : DF} {ta : TA} {a : DA} (hn : ALen a na) (ha : SimA K ct c W ta a) : SimE K ct c W true (tMakeE (ct n) (spF K ct (na + 1) true df) (WE W) ta) (dNewO df n a) := fun G H env σ Q rel p => by
  refine ha G H env σ _ rel ?_
  unfold dNewO at p
  cases ea : a env with
  | no => rw [ea] at p; exact p
  | ex q e1 => rw [ea] at p; exact p
  | ok rvs e1 =>
    rw [ea] at p
    intro G1 H1 vs s1 R1 X1
    dsimp only at p
    cases z1 : clean rvs with
    | none => rw [z1] at p; exact p.elim
    | some ds =>
      rw [z1] at p
      dsimp only at p
      have rv := clean_rvs X1 z1
      have hl : ds.length = na := by
        rw [rv.len, ← hn env rvs e1 ea]
        clear p z1 rv ea
        induction X1 with
        | nil => rfl
        | cons _ _ ih => simp only [List.length_cons, ih]
      intro x dx hx hdx hne
      have gx : G1 x = none := R1.sub.free hx
      have old : ∀ b o, H1 b = some o → upd (upd H1 dx (.own x)) x (.ins (ct n) dx []) b = some o := fun b o e => by
        rw [upd_ne (ne_of_none e hx), upd_ne (ne_of_none e hdx)]; exact e
      refine ⟨G1, .obj n [] :: ds, some x, ⟨fun b o e => old b o (R1.sub _ _ e), fun b us e => ?_⟩, by rw [List.length_cons, hl], ⟨x, .obj n [], ds, vs, rfl, rfl, rfl, ⟨dx, [], upd_same, gx, .nil⟩, rv⟩, ?_⟩
      · by_cases h1 : b = x
        · subst h1; rw [upd_same] at e; cases e
        · rw [upd_ne h1] at e
          by_cases h2 : b = dx
          · subst h2; rw [upd_same] at e; cases e
          · rw [upd_ne h2] at e; exact R1.tp b us e
      · have gro : ∀ {G' H' : Hp}, Aft G1 (upd (upd H1 dx (.own x)) x (.ins (ct n) dx [])) (some x) G' H' → Grow G1 H1 G' H' := fun af => ⟨af.g, fun b o e => af.h b o (old b o e) (by simp; exact ne_of_none e hx), af.s, fun b o e => (af.n b o e).elim .inl fun z => .inr (by
            cases q : H1 b with
            | none => rfl
            | some u => rw [old b u q] at z; cases z), fun b us e => .inr (af.t b us e)⟩
        cases zf : df (.obj n [] :: ds) with
        | no => rw [zf] at p; exact p
        | rn d o => rw [zf] at p; exact p.elim
        | ex q o => rw [zf] at p; exact fun G' H' cls dd af _ h => p G' H' cls dd (s1.trans (gro af).stp) (R1.grow (gro af)) h
        | ok d o =>
          rw [zf] at p
          cases d with
          | non =>
            intro G' H' v af io h
            exact ⟨h.non_inv, p G' H' (.ref x) (s1.trans (gro af).stp) (R1.grow (gro af)) (io x rfl) (fun _ q e => by cases e; exact rel.back s1 R1 hx)⟩
          | _ => exact p.elim
/-- an own class as those that make its objects see it -/
def MkT (P : Program) (w : World) (K : PySem.W.Frag) (mg : Str → Option Value) (base : Heap) (ct : Nat → Addr) (x : Str) (n k na : Nat) (df : DF) : Prop :=
  mg x = some (.ref (ct n)) ∧ ∃ (f : Addr) (fd : FuncData) (ps : List Str), FnOk P w K mg base (L2.CX P w) k f fd ps (spF K ct (na + 1) true df) ∧ Mk K (ct n) f ∧ Binds K fd ps []
theorem je_newO {k na n : Nat} {df : DF} {x : Str} {e : Expr} {es : List Expr} {a : DA} {p pos : Pos} (F : MkT X.prog X.w X.K X.mg X.base ct x n k na df) (hr : Room (k + 1) X.A) (tk : Takes X W) (ha : JA X ct c W (e :: es) a) (hn : ALen a na) (hg : Gl X x := by rfl)
    (hdb : (x == ("__debug__" : Str)) = false := by decide) (h1 : starEach (e :: es) X.env = (false, eval e X.env) :: starEach es X.env := by rfl) (h2 : (backTo pos (starEach es X.env)).any (·.1) = false := by rfl) : JE X ct c W true (.Call (.Name x p) (e :: es) [] pos) (dNewO df n a) := by
  obtain ⟨t, p1, s1⟩ := ha
  obtain ⟨gC, f, fd, ps, F, M, hb⟩ := F
  exact ⟨_, pe_makeE M F hr hg gC hb (fun σ => passAt tk σ) p1 hdb h1 h2, sim_newO hn s1⟩
/-! a property that hands out a field -/
structure PrT (P : Program) (w : World) (K : PySem.W.Frag) (mg : Str → Option Value) (base : Heap) (C : Addr) (pn f : Str) : Prop where
  cl : Cls K C
  ex : ∃ (p g : Addr) (fd : FuncData), PropOf K C pn p g ∧ FnOk P w K mg base (L2.CX P w) 1 g fd ["self"] (getSp C f) ∧ Binds K fd ["self"] []
theorem je_prop {i n : Nat} {x pn f : Str} {p pos : Pos} (T : PrT X.prog X.w X.K X.mg X.base (ct n) pn f) (hr : Room 2 X.A) (hi : decide (i ∈ c.own) = true) (hN : X.N[i]? = some x := by rfl) (hv : Vis X.env.scope x := by first | exact Or.inl rfl | exact Or.inr (Or.inl rfl) | exact Or.inr (Or.inr rfl)) (hd : (x == ("__debug__" : Str)) = false := by decide) (hcd : (x == ("__classdict__" : Str)) = false := by decide)
    (hb : attributeBase (.Name x p) pn X.env (eval (.Name x p) X.env) = eval (.Name x p) X.env := by rfl) : JE X ct c W false (.Attribute (.Name x p) pn pos) (dFld i n f) := by
  obtain ⟨pa, g, fd, hp, F, bd⟩ := T.ex
  have hi := of_decide_eq_true hi
  refine ⟨_, pe_prop (E := fun _ _ _ => False) (pe_var hN hv hd hcd) T.cl hp F hr bd .nil (fun pins σ H s e s' I z => by
    obtain ⟨_, _, _, _, _, _, _, _, _, _, _, _, z⟩ := z
    exact z.elim) hb, fun G H env σ Q r q => ?_⟩
  unfold dFld at q
  split at q
  · rename_i k fs e
    cases hk : decide (k = n) with
    | false => rw [hk] at q; exact q.elim
    | true =>
      rw [hk] at q
      have hk := of_decide_eq_true hk
      subst hk
      obtain ⟨a, dx, us, hσ, ha, ga, rf⟩ := own_obj r hi e
      cases hf : fs.lookup f with
      | none => rw [hf] at q; exact q.elim
      | some d =>
        rw [hf] at q
        obtain ⟨v, hv, rv⟩ := rf.look hf
        exact ⟨.ref a, hσ, a, dx, us, rfl, ha, a, dx, us, v, rfl, ha, hv, q G H v .refl r rv (fun z => nomatch z)⟩
  · exact q.elim
/-! len of an own object -/
structure LenC (K : PySem.W.Frag) (C f : Addr) : Prop where
  at_ : PySem.W.findIn K (.ref C) "__len__" = some (some (.ref f))
  fn : PySem.W.typeIn K (.ref f) = some (.type "function")
def rLenO (C : Addr) (sp : Sp) : List V → Hp → VK → Prop := fun xs H Q => ∃ a dx fs, xs = [.ref a] ∧ H a = some (.ins C dx fs) ∧ sp [.ref a] H (fun v H' => ∃ n : Int, v = .int n ∧ 0 ≤ n ∧ n < 2 ^ 63 ∧ Q (.int n) H') (fun _ _ _ => False)
theorem call_lenO {k : Nat} {f C : Addr} {fd : FuncData} {ps : List Str} {sp : Sp} (T : LenC X.K C f) (F : FnOk X.prog X.w X.K X.mg X.base (L2.CX X.prog X.w) k f fd ps sp) (hb : Binds X.K fd ps []) (hr : Room (k + 1) X.A) : CallR X (.builtin "len") (rLenO C sp) := by
  intro pins s σ H xs us Q I r h
  obtain ⟨a, dx, fs, rfl, ha, q⟩ := h
  obtain ⟨u, rfl, ru⟩ := vals1 r
  obtain rfl : u = Value.ref a := ru
  obtain ⟨mA, O, _, _, _, _⟩ := ins_get I.hok ha
  obtain ⟨od, J, _⟩ := O.look
  have hl : ([Value.ref a] ++ []).length = ps.length := by rw [List.append_nil]; exact F.len _ _ _ _ q
  have bd := hb s [Value.ref a] I.kIn hl
  rw [List.append_nil] at bd
  refine Calls.call_function_entry kind_len plain_len entry_len (args_len1 _) ?_
  unfold Builtin.«len»
  refine wpAny_bind (m := oneArg "len" _) (wpAny_pure ?_)
  have sp1 : ∀ {Q' : Option Value → Shared → Prop} {E' : Value → Shared → Prop}, wpAny (model X.prog X.w) X.A.in1 (call (.ref f) [.ref a]) (fun v s' => Q' (some v) s') E' s → wpAny (model X.prog X.w) X.A.in1 (callSpecial? (.ref a) (Str.ofString "__len__")) Q' E' s := fun w => by
    unfold callSpecial? specialOf
    refine wpAny_bind (wpAny_bind (J.type.here ((PySem.W.looks_findIn I.kIn T.at_).here (wpAny_holding (wpAny_bind ((PySem.W.bind_fn I.kIn _ T.fn).here ?_))))))
    exact wpAny_bind (wpAny_mono w (fun v s' z => wpAny_pure z) fun _ _ z => z)
  refine wpAny_bind (m := callSpecial? (.ref a) (Str.ofString "__len__")) (sp1 (wpAny_call (codeAny_mono (F.run X.A.in1 X.stack s H ⟨[.ref a], []⟩ [.ref a] [.ref a] _ _ hr.in1 I.env0.in1 bd (.cons rfl .nil) q) fun r s' hq => ?_)))
  cases r with
  | error er =>
    obtain ⟨_, _, _, _, _, _, _, _, _, _, _, _, z⟩ := hq
    exact z.elim
  | ok fl =>
    cases fl with
    | ret v0 =>
      obtain ⟨v, H', I3, rv, n, rfl, n0, n1, q3⟩ := I.after hq
      obtain ⟨tk, rfl⟩ : ∃ tk, v0 = Value.int n tk := rv
      refine wpAny_bind (wpAny_holding (wpAny_pure (wpAny_bind (wpAny_letGo ?_))))
      show wpAny _ _ (if n < 0 then _ else _) _ _ _
      rw [if_neg (by omega)]
      show wpAny _ _ (if n ≥ 2 ^ 63 then _ else _) _ _ _
      rw [if_neg (by omega)]
      exact wpAny_bind (wpAny_mkInt (wpAny_pure ⟨_, rfl, ⟨.int n, H', I3.tok _, ⟨_, rfl⟩, q3⟩⟩))
    | next => exact hq.elim
    | brk => exact hq.elim
    | cont => exact hq.elim
end
end Dn

namespace Dn
open PySem PySem.Spec PyProof.Rows L2
section
variable {X : Cx} {ct : Nat → Addr} {c : Cf} {W : WX} {K : PySem.W.Frag}
/-- a method (or __init__, __len__) at an address of which At tells what it is there for -/
def MFn (P : Program) (w : World) (K : PySem.W.Frag) (mg : Str → Option Value) (base : Heap) (ct : Nat → Addr) (At : Addr → Prop) (k na : Nat) (df : DF) : Prop :=
  ∃ (f : Addr) (fd : FuncData) (ps : List Str), FnOk P w K mg base (L2.CX P w) k f fd ps (spF K ct (na + 1) true df) ∧ At f ∧ Binds K fd ps []
structure MDef (K : PySem.W.Frag) (At : Addr → Prop) (m q : Str) (st : Stmt) (ps : List Str) : Prop where
  ex : ∃ (f : Addr) (fd : FuncData), Fun K m q st f fd ∧ At f ∧ Binds K fd ps []
theorem mfn_mk {P : Program} {w : World} {mg : Str → Option Value} {base : Heap} {At : Addr → Prop} {m q : Str} {st : Stmt} {N ps : List Str} {k na : Nat} {own : List Nat} {b : DS} (F : MDef K At m q st ps) (S : FnScope N ps (defScope st)) (hps : ps.length = na + 1) (ho : ownOk (na + 1) true own = true)
    (hb : ∀ (f : Addr) (cdv : Value) (A : Around) (outer : List PySem.Env) (s : Shared) (H : Hp) (E : XK) (H0 G0 : Hp) (iop : Option Addr), Room k (A.deeper (envOfC q (defScope st) s.heap.objs.size f cdv)) →
      PassesOwn (model P w) (cxOf (L2.CX P w) P w K mg base N q (defScope st) f cdv A outer s H E).A (cxOf (L2.CX P w) P w K mg base N q (defScope st) f cdv A outer s H E).env (cxOf (L2.CX P w) P w K mg base N q (defScope st) f cdv A outer s H E).xe →
      Takes (cxOf (L2.CX P w) P w K mg base N q (defScope st) f cdv A outer s H E) (fun cls d _ H => E cls d H) →
      JSs (cxOf (L2.CX P w) P w K mg base N q (defScope st) f cdv A outer s H E) ct ⟨own, H0, G0, iop, []⟩ (fun cls d _ H => E cls d H) (defBody st) b) :
    MFn P w K mg base ct At (k + 1) na (runF N.length true b) := by
  obtain ⟨f, fd, F1, g, bn⟩ := F.ex
  exact ⟨f, fd, ps, fn_ok F1 S hps ho (fun cdv A outer s H E H0 G0 iop hr => hb f cdv A outer s H E H0 G0 iop hr (passes_of rfl) (takes_of rfl rfl rfl rfl)), g, bn⟩
/-! len(o) -/
def dLenO (df : DF) (i n : Nat) : DE := fun env => match look env i with
  | some (.obj k fs) => match decide (k = n) with
    | true => match df [.obj k fs] with
      | .ok (.int z) o => match decide (0 ≤ z) && decide (z.natAbs < 2 ^ 62) with
        | true => .ok (.val (.int z)) (env.set i (some o))
        | false => .no
      | _ => .no
    | false => .no
  | _ => .no
theorem je_lenO {k i n : Nat} {df : DF} {x : Str} {p pos p2 : Pos} (F : MFn X.prog X.w X.K X.mg X.base ct (LenC X.K (ct n)) k 0 df) (hr : Room (k + 1) X.A) (hm : X.mg "len" = none) (hi : decide (i ∈ c.own) = true) (hN : X.N[i]? = some x := by rfl) (hv : Vis X.env.scope x := by first | exact Or.inl rfl | exact Or.inr (Or.inl rfl) | exact Or.inr (Or.inr rfl)) (hd : (x == ("__debug__" : Str)) = false := by decide) (hcd : (x == ("__classdict__" : Str)) = false := by decide)
    (hg : Gl X "len" := by rfl) (h1 : starEach [.Name x p2] X.env = (false, eval (.Name x p2) X.env) :: starEach [] X.env := by rfl) (h2 : (backTo pos (starEach [] X.env)).any (·.1) = false := by rfl) :
    JE X ct c W false (.Call (.Name "len" p) [.Name x p2] [] pos) (dLenO df i n) := by
  obtain ⟨f, fd, ps, F, T, hb⟩ := F
  have hi := of_decide_eq_true hi
  refine ⟨_, pe_callB (call_lenO T F hb hr) hg hm PySem.boot_len (pa_cons (pe_var hN hv hd hcd) pa_nil h1) (by decide) (by decide) h1 h2, fun G H env σ Q r q => ?_⟩
  unfold dLenO at q
  split at q
  · rename_i k' fs e
    cases hk : decide (k' = n) with
    | false => rw [hk] at q; exact q.elim
    | true =>
      rw [hk] at q
      have hk := of_decide_eq_true hk
      subst hk
      obtain ⟨a, dx, us, hσ, ha, ga, rf⟩ := own_obj r hi e
      dsimp only at q
      refine ⟨.ref a, hσ, a, dx, us, rfl, ha, G, [.obj k' fs], some a, ⟨r.sub, r.tp⟩, rfl, ⟨a, .obj k' fs, [], [], rfl, rfl, rfl, ⟨dx, us, ha, ga, rf⟩, .nil⟩, ?_⟩
      cases zf : df [.obj k' fs] with
      | no => rw [zf] at q; exact q
      | rn d o => rw [zf] at q; exact q.elim
      | ex y o => rw [zf] at q; exact q.elim
      | ok d o =>
        rw [zf] at q
        cases d with
        | int z =>
          dsimp only at q
          cases hz : decide (0 ≤ z) && decide (z.natAbs < 2 ^ 62) with
          | false => rw [hz] at q; exact q.elim
          | true =>
            rw [hz] at q
            rw [Bool.and_eq_true] at hz
            have z0 := of_decide_eq_true hz.1
            have z1 := of_decide_eq_true hz.2
            intro G' H' v af io h
            obtain ⟨R2, s2⟩ := r.io hi hσ af (io a rfl)
            exact ⟨z, h.int_inv, z0, by omega, q G' H' (.int z) s2 R2 (.int z) (fun y => nomatch y)⟩
        | _ => exact q.elim
  · exact q.elim
end
/-! the head's facts of an own class -/
/-- a def that stands at an address that is found another way (a property's getter) -/
def fnAt (K : PySem.W.Frag) (a : Addr) : He.FnW := match K.lookup a with
  | some ⟨_, _, .func fd, _⟩ => some (fd.name, fd.qualname, fd.params, fd.body, fd.scope, fd.globals, fd.closure, fd.builtins)
  | _ => none
def okAt (K : PySem.W.Frag) (a : Addr) (q : Str) : Bool := match K.lookup a with
  | some ⟨_, _, .func fd, _⟩ => PySem.W.codeIn K fd.code q && decide (fd.defaults = .none)
  | _ => false
def propA (K : PySem.W.Frag) (x pn : Str) : Addr := He.fAd K (x, some pn)
def propG (K : PySem.W.Frag) (x pn : Str) : Addr := match PySem.W.recIn K (propA K x pn) "property" with
  | some (.ref g :: _) => g
  | _ => 0
def propB (K : PySem.W.Frag) (x pn : Str) (q : Str) : Bool := He.eqO (PySem.W.findIn K (.ref (He.ga K x)) pn) (some (some (.ref (propA K x pn)))) && (He.eqO (PySem.W.specialIn K (.ref (propA K x pn)) "__get__") (some (some (.builtin "property.__get__"))) && (decide (PySem.W.takesIn K (.ref (propA K x pn)) = some true) && ((match PySem.W.recIn K (propA K x pn) "property" with
  | some (.ref _ :: _) => true
  | _ => false) && okAt K (propG K x pn) q)))
theorem propB_ok {K : PySem.W.Frag} {x pn q : Str} (h : propB K x pn q = true) : PropOf K (He.ga K x) pn (propA K x pn) (propG K x pn) ∧ okAt K (propG K x pn) q = true := by
  obtain ⟨h1, h⟩ := He.ba h
  obtain ⟨h2, h⟩ := He.ba h
  obtain ⟨h3, h⟩ := He.ba h
  obtain ⟨h4, h5⟩ := He.ba h
  refine ⟨⟨He.eqO_ok h1, He.eqO_ok h2, of_decide_eq_true h3, ?_⟩, h5⟩
  unfold propG
  split at h4
  · rename_i g rest e
    rw [e]
    exact ⟨rest, rfl⟩
  · cases h4
/-- a hook with one more Bool and one more def -/
def hookG (n : Nat) (fa : List He.Fa) (fn : List He.DefD) (ex : PySem.W.Frag → Bool) (ga : PySem.W.Frag → Addr) (gd : He.FnW) : PySem.W.Hook where
  α := He.AlD × Bool × He.FnW
  obs := fun s => (He.obsDG n fa fn s.heap.get?, ex (He.frG s.heap.get? (He.asD s.heap.get? n)), fnAt (He.frG s.heap.get? (He.asD s.heap.get? n)) (ga (He.frG s.heap.get? (He.asD s.heap.get? n))))
  val := fun _ => (He.valD fn, true, gd)
  says := fun _ h => ∃ K : PySem.W.Frag, K.In h ∧ He.SaysD fa fn K ∧ ex K = true ∧ fnAt K (ga K) = gd
  of := fun _ _ e => ⟨_, He.frG_in, (Prod.mk.inj e).1, (Prod.mk.inj (Prod.mk.inj e).2).1, (Prod.mk.inj (Prod.mk.inj e).2).2⟩
  keeps := fun _ _ _ ⟨K, hK, c⟩ k => ⟨K, PySem.W.Frag.In.keeps hK k, c⟩
def obsG (n : Nat) (fa : List He.Fa) (fn : List He.DefD) (ex : PySem.W.Frag → Bool) (ga : PySem.W.Frag → Addr) (g : Addr → Option Obj) : He.AlD × Bool × He.FnW := (He.obsDG n fa fn g, ex (He.frG g (He.asD g n)), fnAt (He.frG g (He.asD g n)) (ga (He.frG g (He.asD g n))))
theorem obsG_eq {n : Nat} {fa : List He.Fa} {fn : List He.DefD} {ex : PySem.W.Frag → Bool} {ga : PySem.W.Frag → Addr} {gd : He.FnW} {g : Addr → Option Obj} {s : Shared} (h : ∀ a, g a = s.heap.get? a) : obsG n fa fn ex ga g = (hookG n fa fn ex ga gd).obs s := by
  have e : g = s.heap.get? := funext h
  rw [e] <;> rfl
def gdOf (m q : Str) (st : Stmt) : He.FnW := some (m, q, defArgs st, .stmts (defBody st), defScope st, mainGlobals, [], builtinsNs)
def getBody (st : Stmt) (f : Str) : Bool := match defBody st with
  | [.Return (some (.Attribute (.Name a _) b _)) _] => a == "self" && b == f
  | _ => false
theorem getBody_ok {st : Stmt} {f : Str} (h : getBody st f = true) : ∃ p1 p2 p3, defBody st = [.Return (some (.Attribute (.Name "self" p1) f p2)) p3] := by
  unfold getBody at h
  split at h
  · rename_i a p1 b p2 p3 e
    obtain ⟨h1, h2⟩ := He.ba h
    have e1 := eq_of_beq h1
    have e2 := eq_of_beq h2
    subst e1 e2
    exact ⟨p1, p2, p3, e⟩
  · cases h
theorem prT_of {P : Program} {w : World} {K : PySem.W.Frag} {mg : Str → Option Value} {base : Heap} {x pn m q f : Str} {st : Stmt} {n : Nat} (hx : exn n = x) (cl : Cls K (ctK K n)) (no : NoAttr K (ctK K n) f) (hB : propB K x pn q = true) (hg : fnAt K (propG K x pn) = gdOf m q st) (S : FnScope ["self"] ["self"] (defScope st)) (hb : getBody st f = true)
    (hbi : ∀ (dV kV doc pm : Value) (an : Option Addr) (cdv ct : Value) (us : List Value), dV = .none → us.length = 1 → bindArgs (PySem.W.fnOf m q (defArgs st) (defBody st) (defScope st) dV kV doc pm an cdv ct) ⟨us, []⟩ = pure ((["self"] : List Str).zip us)) : PrT P w K mg base (ctK K n) pn f := by
  subst hx
  obtain ⟨hp, ho⟩ := propB_ok hB
  obtain ⟨p1, p2, p3, eb⟩ := getBody_ok hb
  unfold fnAt at hg
  unfold okAt at ho
  cases e : K.lookup (propG K (exn n) pn) with
  | none => rw [e] at ho; cases ho
  | some o =>
    obtain ⟨oc, od, dt, osl⟩ := o
    rw [e] at hg ho
    cases dt with
    | func fd =>
      obtain ⟨n1, n2, n3, n4, n5, n6, n7, n8, n9, n10, n11, n12, n13, n14, n15⟩ := fd
      have e2 : (some (n1, n2, n3, n4, n5, n6, n7, n15) : He.FnW) = some (m, q, defArgs st, .stmts (defBody st), defScope st, mainGlobals, [], builtinsNs) := hg
      simp only [Option.some.injEq, Prod.mk.injEq] at e2
      obtain ⟨h1, h2, h3, h4, h5, h6, h7, h8⟩ := e2
      subst h1 h2 h3 h4 h5 h6 h7 h8
      have c3 : (PySem.W.codeIn K n13 n2 && decide (n8 = .none)) = true := ho
      obtain ⟨k1, k2⟩ := He.ba c3
      have k2 := of_decide_eq_true k2
      refine ⟨cl, propA K (exn n) pn, propG K (exn n) pn, PySem.W.fnOf n1 n2 (defArgs st) (defBody st) (defScope st) n8 n9 n10 n11 n12 n13 n14, hp, fn_getter (k := 0) e k1 S rfl eb cl no, .all fun us hl => hbi n8 n9 n10 n11 n12 n13 n14 us k2 hl⟩
    | _ => cases ho
theorem mdef_of {K : PySem.W.Frag} {fas : List He.Fa} {dfs : List He.DefD} {At : Addr → Prop} {x m q : Str} {st : Stmt} {ps : List Str} (c : He.SaysD fas dfs K) (i : Nat) (hi : dfs[i]? = some (ddM x m q st)) (ha : At (He.fAd K (x, some m)))
    (hbi : ∀ (kV doc pm : Value) (an : Option Addr) (cdv ct : Value) (us : List Value), us.length = ps.length → bindArgs (PySem.W.fnOf m q (defArgs st) (defBody st) (defScope st) .none kV doc pm an cdv ct) ⟨us, []⟩ = pure (ps.zip us)) : MDef K At m q st ps := by
  obtain ⟨fd, F⟩ := c.def_ i hi
  have F2 : FunD K m q (defArgs st) (defBody st) (defScope st) [] [] (He.fAd K (x, some m)) fd := F
  exact ⟨_, fd, funD_of F2, ha, F2.bindsN hbi⟩
def lenB (K : PySem.W.Frag) (x : Str) : Bool := He.eqO (PySem.W.findIn K (.ref (He.ga K x)) "__len__") (some (some (.ref (He.fAd K (x, some "__len__"))))) && decide (PySem.W.typeIn K (.ref (He.fAd K (x, some "__len__"))) = some (.type "function"))
theorem lenB_ok {K : PySem.W.Frag} {x : Str} (h : lenB K x = true) : LenC K (He.ga K x) (He.fAd K (x, some "__len__")) := by
  obtain ⟨h1, h2⟩ := He.ba h
  exact ⟨He.eqO_ok h1, of_decide_eq_true h2⟩
end Dn
namespace Dn
open PySem PySem.Spec PyProof.Rows L2
theorem mtT_of {P : Program} {w : World} {K : PySem.W.Frag} {mg : Str → Option Value} {base : Heap} {ct : Nat → Addr} {n k na : Nat} {m : Str} {df : DF} (T : Cls K (ct n)) (H : MFn P w K mg base ct (Meth K (ct n) m) k na df) : MtT P w K mg base ct n m k na df := And.intro T H
theorem mkT_of {P : Program} {w : World} {K : PySem.W.Frag} {mg : Str → Option Value} {base : Heap} {ct : Nat → Addr} {n k na : Nat} {x : Str} {df : DF} (T : mg x = some (.ref (ct n))) (H : MFn P w K mg base ct (Mk K (ct n)) k na df) : MkT P w K mg base ct x n k na df := And.intro T H
end Dn

namespace Dn
open PySem PySem.Spec PyProof.Rows L2
section
variable {X : Cx} {ct : Nat → Addr} {c : Cf} {W : WX}
def gRevL : D → Option D
  | .lst xs => some (.lst xs.reverse)
  | _ => none
theorem je_revL {e : Expr} {d : DE} {k : Nat} {p1 p2 p3 pos : Pos} (he : JE X ct c W false e d) : JE X ct c W true (.Subscript e (.Slice none none (some (.UnaryOp .USub (.Constant (.int 1) k p1) p2)) p3) pos) (dUn gRevL d) := by
  obtain ⟨t, p, s⟩ := he
  refine ⟨_, pe_revL p, sim_un (r := fun x H Q => ∃ a xs, x = .ref a ∧ SqL X.K H a xs ∧ ∀ p, H p = none → Q (.ref p) (upd H p (.lst xs.reverse))) (fun G H dx x d Q s r e o => ?_) s⟩
  unfold gRevL at e
  split at e
  · cases e
    obtain ⟨q, vs, rfl, hq, rv⟩ := r.lst_inv s
    exact ⟨q, vs, rfl, .inl (.inl hq), fun b hb => o.newL s hb rv.rev⟩
  · cases e
end
end Dn

namespace Dn
open PySem PySem.Spec PyProof.Rows L2
/-! min of a list of tuples of ints, where the first is none greater than another -/
def pyI (ns : List Int) : PyData := .tuple (ns.map .int)
theorem pyI_inj {a b : List Int} (h : pyI a = pyI b) : a = b := by
  unfold pyI at h
  injection h with h
  have inj : ∀ {a b : List Int}, a.map PyData.int = b.map PyData.int → a = b := by
    intro a
    induction a with
    | nil => intro b h; cases b with | nil => rfl | cons _ _ => cases h
    | cons x a ih =>
      intro b h
      cases b with
      | nil => cases h
      | cons y b =>
        rw [List.map_cons, List.map_cons] at h
        injection h with h1 h2
        injection h1 with h1
        rw [h1, ih h2]
  exact inj h
/-- a < b, place by place -/
def ltR : List Int → List Int → Bool
  | [], [] => false
  | [], _ :: _ => true
  | _ :: _, [] => false
  | a :: as, b :: bs => if a = b then ltR as bs else decide (a < b)
theorem toks_cons (a : Int) (as : List Int) : PySem.W.keyToks (pyI (a :: as)) = .inl 1 :: .inl a :: PySem.W.keyToks (pyI as) := by simp [pyI, PySem.W.keyToks, PySem.W.keyToksAll]
theorem toks_nil : PySem.W.keyToks (pyI []) = [.inl 0] := by simp [pyI, PySem.W.keyToks, PySem.W.keyToksAll]
theorem lt_pyI : ∀ as bs : List Int, PySem.W.dataLt (pyI as) (pyI bs) = ltR as bs
  | [], [] => by
    show PyProof.Rows.lexLt itemOrd (PySem.W.keyToks (pyI [])) (PySem.W.keyToks (pyI [])) = _
    rw [toks_nil, PyProof.Rows.lex_self]
    rfl
  | [], b :: bs => by
    show PyProof.Rows.lexLt itemOrd (PySem.W.keyToks (pyI [])) (PySem.W.keyToks (pyI (b :: bs))) = _
    rw [toks_nil, toks_cons, PyProof.Rows.lex_cons]
    have b1 : ∀ i j : Int, itemOrd.blt (.inl i) (.inl j) = decide (i < j) := fun i j => rfl
    rw [b1, b1]
    simp [ltR]
  | a :: as, [] => by
    show PyProof.Rows.lexLt itemOrd (PySem.W.keyToks (pyI (a :: as))) (PySem.W.keyToks (pyI [])) = _
    rw [toks_nil, toks_cons, PyProof.Rows.lex_cons]
    have b1 : ∀ i j : Int, itemOrd.blt (.inl i) (.inl j) = decide (i < j) := fun i j => rfl
    rw [b1, b1]
    simp [ltR]
  | a :: as, b :: bs => by
    have ih := lt_pyI as bs
    show PyProof.Rows.lexLt itemOrd (PySem.W.keyToks (pyI (a :: as))) (PySem.W.keyToks (pyI (b :: bs))) = _
    rw [toks_cons, toks_cons, PyProof.Rows.lex_self, PyProof.Rows.lex_cons]
    have b1 : ∀ i j : Int, itemOrd.blt (.inl i) (.inl j) = decide (i < j) := fun i j => rfl
    rw [b1, b1]
    unfold ltR
    by_cases h : a = b
    · subst h
      have : ¬ a < a := by omega
      simp only [if_true, this, decide_false]
      exact ih
    · rw [if_neg h]
      by_cases h2 : a < b
      · have : ¬ b < a := by omega
        simp [h2, this]
      · have : b < a := by omega
        simp [h2, this]
theorem minD_first {x : List Int} : ∀ ys : List (List Int), (∀ y ∈ ys, ltR y x = false) → PySem.W.minD (pyI x) (ys.map pyI) = pyI x
  | [], _ => rfl
  | y :: ys, h => by
    have ih := minD_first (x := x) ys fun z hz => h z (List.mem_cons_of_mem _ hz)
    unfold PySem.W.minD at ih ⊢
    rw [List.map_cons, List.foldl_cons, lt_pyI, h y (List.mem_cons_self ..)]
    exact ih
theorem alike_rows (rs : List (List Int)) : PySem.W.AlikeAll (rs.map pyI) := by
  have al : ∀ a b : List Int, PySem.W.alikeAll (a.map PyData.int) (b.map PyData.int) = true := by
    intro a
    induction a with
    | nil => intro b; simp [PySem.W.alikeAll]
    | cons x a ih =>
      intro b
      cases b with
      | nil => simp [PySem.W.alikeAll]
      | cons y b => simp [PySem.W.alikeAll, PySem.W.alike, ih b]
  refine ⟨fun x hx y hy => ?_, fun x hx => ?_⟩
  · obtain ⟨a, _, rfl⟩ := List.mem_map.mp hx
    obtain ⟨b, _, rfl⟩ := List.mem_map.mp hy
    unfold pyI
    simp [PySem.W.alike, al a b]
  · obtain ⟨a, _, rfl⟩ := List.mem_map.mp hx
    intro z
    cases z
theorem depth_rows : ∀ rs : List (List Int), PyData.depthAll (rs.map pyI) ≤ 1
  | [] => by simp [PyData.depthAll]
  | r :: rs => by
    have h1 := depth_rows rs
    have h2 := depth_ints r
    simp [PyData.depthAll, PyData.depth, pyI, h2]
    exact Nat.max_le.mpr ⟨Nat.le_refl _, h1⟩
section
variable {X : Cx} {ct : Nat → Addr} {c : Cf} {W : WX} {K : PySem.W.Frag}
def rMinT (K : PySem.W.Frag) : List V → Hp → VK → Prop := fun vs H Q => ∃ (a : Addr) (b0 : List Int × V) (bs : List (List Int × V)), vs = [.ref a] ∧ SqL K H a ((b0 :: bs).map (·.2)) ∧ (∀ b ∈ b0 :: bs, Dp K H b.2 (pyI b.1)) ∧ (∀ b ∈ bs, ltR b.1 b0.1 = false) ∧ ∀ b ∈ b0 :: bs, b.1 = b0.1 → Q b.2 H
theorem reads_rows {pins : List (Addr × Obj)} {σ : L2.St} {H : Hp} {s : Shared} (I : Inv X pins σ H s) : ∀ {bs : List (List Int × V)} {us : List Value}, (∀ b ∈ bs, Dp X.K H b.2 (pyI b.1)) → Vals (bs.map (·.2)) us → ∃ as, ReadsAll s.heap us (bs.map fun b => pyI b.1) as
  | [], _, _, .nil => ⟨[], .nil⟩
  | b :: bs, _, hd, .cons r t => by
    obtain ⟨as, h1⟩ := Dp.reads I _ _ _ (hd b (List.mem_cons_self ..)) r
    obtain ⟨as2, h2⟩ := reads_rows I (fun b hb => hd b (List.mem_cons_of_mem _ hb)) t
    exact ⟨as ++ as2, .cons h1 h2⟩
theorem vals_at : ∀ {vs : List V} {us : List Value}, Vals vs us → ∀ {i : Nat} {u : Value}, us[i]? = some u → ∃ v, vs[i]? = some v ∧ RelV v u
  | _, _, .nil, i, u, h => by simp at h
  | _, _, .cons r t, 0, u, h => by simp at h; subst h; exact ⟨_, rfl, r⟩
  | _, _, .cons r t, i + 1, u, h => by simpa using vals_at t (i := i) (by simpa using h)
theorem cr_minT (hc : X.calm = true) (hu : X.A.units + 65 < cLine) : CallR X (.builtin "min") (rMinT X.K) := by
  intro pins s σ H vs us Q I r h
  obtain ⟨a, b0, bs, rfl, hs, hd, hlt, q⟩ := h
  obtain ⟨its, rv, hl, hz⟩ := I.list hs
  rw [Vals.ref1 r]
  obtain ⟨as, hr⟩ := reads_rows I hd rv
  have ea : ((b0 :: bs).map fun b => pyI b.1) = pyI b0.1 :: (bs.map (·.1)).map pyI := by simp
  rw [ea] at hr
  have e2 : pyI b0.1 :: (bs.map (·.1)).map pyI = (b0.1 :: bs.map (·.1)).map pyI := rfl
  refine PySem.W.min_list_data (x := pyI b0.1) (xs := (bs.map (·.1)).map pyI) (as := as) (I.ok.hd hc) hl.isList (by simpa using hr) (by rw [e2]; exact alike_rows _) (by have := depth_rows (b0.1 :: bs.map (·.1)); rw [e2]; omega) fun i v h' tk bs' hi hr' hk => ?_
  rw [minD_first _ (fun y hy => by
    obtain ⟨b, hb, rfl⟩ := List.mem_map.mp hy
    exact hlt b hb)] at hr'
  obtain ⟨x, hx, rx⟩ := vals_at rv (i := i) (by simpa using hi)
  rw [List.getElem?_map] at hx
  cases hb : (b0 :: bs)[i]? with
  | none => rw [hb] at hx; cases hx
  | some b =>
    rw [hb] at hx
    cases hx
    have hm := List.mem_of_getElem? hb
    obtain ⟨as3, h3⟩ := Dp.reads I _ _ _ (hd b hm) rx
    have e3 := (PyProof.Rows.reads_det (fun b o e _ => hk b o e) h3 hr').1
    exact ⟨b.2, H, I.kept hk, rx, q b hm (pyI_inj e3).symm⟩
def unRows : List D → Option (List (List Int))
  | [] => some []
  | .tup ds :: r => match unInts ds, unRows r with
    | some ns, some rs => some (ns :: rs)
    | _, _ => none
  | _ => none
def bMinT : List D → Option D
  | [.lst ds] => match unRows ds with
    | some (x :: ys) => match ys.all (fun y => !ltR y x) with
      | true => some (.tup (x.map .int))
      | false => none
    | _ => bMin [.lst ds]
  | xs => bMin xs
theorem dp_ints {H : Hp} : ∀ ns : List Int, DpAll K H (ns.map V.int) (ns.map PyData.int)
  | [] => .nil
  | n :: ns => .cons (.int n) (dp_ints ns)
theorem unRows_rv {G H : Hp} (s : Same G H) : ∀ {ds : List D} {vs : List V} {rs : List (List Int)}, RVs K ct G ds vs → unRows ds = some rs → ∃ bs : List (List Int × V), bs.map (·.1) = rs ∧ bs.map (·.2) = vs ∧ ∀ b ∈ bs, Dp K H b.2 (pyI b.1) ∧ RV K ct G (.tup (b.1.map .int)) b.2
  | _, _, rs, .nil, e => by cases e; exact ⟨[], rfl, rfl, fun b hb => by cases hb⟩
  | _, _, rs, .cons (x := d) r t, e => by
    unfold unRows at e
    split at e
    · rename_i z; cases z
    · rename_i xs rest z
      cases z
      split at e
      · rename_i ns rs' e1 e2
        cases e
        obtain ⟨bs, h1, h2, h3⟩ := unRows_rv s t e2
        rw [unInts_eq e1] at r
        cases r with
        | @tup p _ vs hp rv =>
          have hv := rv.ints
          subst hv
          refine ⟨(ns, .ref p) :: bs, by rw [List.map_cons, h1], by rw [List.map_cons, h2], fun b hb => ?_⟩
          rcases List.mem_cons.mp hb with rfl | hb
          · exact ⟨.tup (.inl (.inl (s _ _ hp))) (dp_ints ns), .tup hp rv⟩
          · exact h3 b hb
      · cases e
    · cases e
theorem call_minAT (hc : X.calm = true) (hu : X.A.units + 65 < cLine) : CallR X (.builtin "min") (fun xs H Q => ((rMin X.K xs H Q) ∨ ∃ i j, xs = [.int i, .int j] ∧ Q (.int (if j < i then j else i)) H) ∨ rMinT X.K xs H Q) := CallR.or (call_minA hc) (cr_minT hc hu)
theorem fs_minT : FnS K ct false (fun xs H Q => ((rMin K xs H Q) ∨ ∃ i j, xs = [.int i, .int j] ∧ Q (.int (if j < i then j else i)) H) ∨ rMinT K xs H Q) bMinT := fun G H ds vs d Q s r e o => by
  unfold bMinT at e
  split at e
  · rename_i xs
    split at e
    · rename_i x ys z
      split at e
      · rename_i hall
        cases e
        right
        obtain ⟨v, rfl, q0⟩ := rds1 r
        obtain ⟨p, vs, rfl, hp, rv⟩ := q0.lst_inv s
        obtain ⟨bs, h1, h2, h3⟩ := unRows_rv s rv z
        cases bs with
        | nil => cases h1
        | cons b0 bs =>
          rw [List.map_cons] at h1
          injection h1 with h1 h1'
          subst h1
          refine ⟨p, b0, bs, rfl, by rw [h2]; exact .inl (.inl hp), fun b hb => (h3 b hb).1, fun b hb => ?_, fun b hb eb => ?_⟩
          · have := List.all_eq_true.mp hall b.1 (by rw [← h1']; exact List.mem_map_of_mem hb)
            simpa using this
          · have := (h3 b hb).2
            rw [eb] at this
            exact o.val s this
      · cases e
    · exact .inl (fs_min G H _ vs d Q s r e o)
  · exact .inl (fs_min G H ds vs d Q s r e o)
end
end Dn

namespace Lr
open PySem PySem.Spec PyProof.Rows L2 Dn
abbrev WF : Nat := 10 ^ 60
def b_is_integer : DS := (sRet (dAndV (dUn (gIsi .int) (dVar 0)) (dUn notOp (dUn (gIsi .bool) (dVar 0)))))
def d_is_integer : DF := runF 1 false b_is_integer
def b_is_from : DS := (sRet (dAndV (dCall d_is_integer (aCons (dVar 0) aNil)) (dChain gLe gLe (dVar 1) (dVar 0) (dVar 2))))
def d_is_from : DF := runF 3 false b_is_from
def b_check_shuffle : DS := (sSeq (sIf (dOr (dNot (dTest (dUn (gIsi .tuple) (dVar 0)))) (dTest (dOp gGt (dFn bLen (aCons (dVar 0) aNil)) (dC (.int 60)))))
    (fun env => RS.ex ⟨0, none⟩ env)
    sNil)
    (sIf (dOr (dNot (dTest (dFn bAll (aCons (dComp [1] (iAny (dVar 0)) (gN 1) dYes (dCall d_is_from (aCons (dVar 1) (aCons (dC (.int 0)) (aCons (dOp gSubt (dFn bLen (aCons (dVar 0) aNil)) (dC (.int 1))) aNil))))) aNil)))) (dTest (dOp gLt (dUn gLenS (dVar 0)) (dFn bLen (aCons (dVar 0) aNil)))))
    (fun env => RS.ex ⟨0, none⟩ env)
    sNil))
def d_check_shuffle : DF := runF 2 false b_check_shuffle
def b_divisor : DS := (sSeq (whl (dTest (dOp gNe (dVar 1) (dC (.int 0))))
    (sPar [0, 1] (pCons (dVar 1) (pCons (dOp gMod (dVar 0) (dVar 1)) pNil))) WF)
    (sRet (dVar 0)))
def d_divisor : DF := runF 2 false b_divisor
def b_multiple : DS := (sSeq (sSet 1 (dC (.int 1)))
    (sSeq (sFor (iAny (dVar 0)) (gN 2)
    (sSet 1 (dOp gDiv (dOp gMul (dVar 1) (dVar 2)) (dCall d_divisor (aCons (dVar 1) (aCons (dVar 2) aNil))))))
    (sRet (dVar 1))))
def d_multiple : DF := runF 3 false b_multiple
def b_circles_of : DS := (sSeq (sPar [2, 3] (pCons (dDisp .lst aNil) (pCons (dC (.dK [])) pNil)))
    (sSeq (sFor (iFn range1 (aCons (dFn bLen (aCons (dVar 0) aNil)) aNil)) (gN 1)
    (sIf (dTest (dOp gNotInV (dVar 1) (dOwn 3)))
    (sSeq (sPar [4, 5] (pCons (dDisp .lst aNil) (pCons (dVar 1) pNil)))
    (sSeq (whl (dTest (dOp gNotInV (dVar 5) (dOwn 3)))
    (sSeq (sDSet 3 (dC (.bl true)) (dVar 5))
    (sSeq (sExpr (dMut 4 mAppend (aCons (dVar 5) aNil)))
    (sSet 5 (dOp gIx (dVar 0) (dVar 5))))) WF)
    (sExpr (dMut 2 mAppend (aCons (dFn bTuple (aCons (dOwn 4) aNil)) aNil)))))
    sNil))
    (sRet (dOwn 2))))
def d_circles_of : DF := runF 6 false b_circles_of
def b_circles : DS := (sSeq (sExpr (dCall d_check_shuffle (aCons (dVar 0) aNil)))
    (sRetN (dCallN d_circles_of (aCons (dVar 0) aNil))))
def d_circles : DF := runF 1 false b_circles
def b_round_by : DS := (sRet (dCall d_multiple (aCons (dComp [1] (iAny (dCall d_circles_of (aCons (dVar 0) aNil))) (gN 1) dYes (dFn bLen (aCons (dVar 1) aNil))) aNil)))
def d_round_by : DF := runF 2 false b_round_by
def b_round_of : DS := (sSeq (sExpr (dCall d_check_shuffle (aCons (dVar 0) aNil)))
    (sRet (dCall d_round_by (aCons (dVar 0) aNil))))
def d_round_of : DF := runF 1 false b_round_of
def b_done_by : DS := (sSeq (sSet 2 (dFn bListA (aCons (dVar 0) aNil)))
    (sSeq (sFor (iAny (dCall d_circles_of (aCons (dVar 0) aNil))) (gN 3)
    (sFor (iFnV bEnum (aCons (dVar 3) aNil)) (gTp 2 (gsCons (gN 4) (gsCons (gN 5) gsNil)))
    (sSetIx 2 (dOp gIx (dVar 3) (dOp gMod (dOp gAdd (dVar 4) (dVar 1)) (dFn bLen (aCons (dVar 3) aNil)))) (dVar 5))))
    (sRet (dFn bTuple (aCons (dOwn 2) aNil)))))
def d_done_by : DF := runF 6 false b_done_by
def b_done : DS := (sSeq (sExpr (dCall d_check_shuffle (aCons (dVar 0) aNil)))
    (sSeq (sIf (dNot (dTest (dCall d_is_from (aCons (dVar 1) (aCons (dC (.int 0)) (aCons (dC (.int 1000000000000000000000000000000)) aNil))))))
    (fun env => RS.ex ⟨2, none⟩ env)
    sNil)
    (sRet (dCall d_done_by (aCons (dVar 0) (aCons (dVar 1) aNil))))))
def d_done : DF := runF 2 false b_done
def b_is_even : DS := (sSeq (sExpr (dCall d_check_shuffle (aCons (dVar 0) aNil)))
    (sRet (dOp gEq (dOp gMod (dFn bSum (aCons (dComp [1] (iAny (dCall d_circles_of (aCons (dVar 0) aNil))) (gN 1) dYes (dOp gSubt (dFn bLen (aCons (dVar 1) aNil)) (dC (.int 1)))) aNil)) (dC (.int 2))) (dC (.int 0)))))
def d_is_even : DF := runF 2 false b_is_even
def b_both_by : DS := (sRet (dFn bTuple (aCons (dComp [2] (iAny (dVar 0)) (gN 2) dYes (dOp gIx (dVar 1) (dVar 2))) aNil)))
def d_both_by : DF := runF 3 false b_both_by
def b_both : DS := (sSeq (sExpr (dCall d_check_shuffle (aCons (dVar 0) aNil)))
    (sSeq (sExpr (dCall d_check_shuffle (aCons (dVar 1) aNil)))
    (sSeq (sIf (dTest (dOp gNe (dFn bLen (aCons (dVar 0) aNil)) (dFn bLen (aCons (dVar 1) aNil))))
    (fun env => RS.ex ⟨1, none⟩ env)
    sNil)
    (sRet (dCall d_both_by (aCons (dVar 0) (aCons (dVar 1) aNil)))))))
def d_both : DF := runF 2 false b_both
def b_write : DS := (sSeq (sExpr (dCall d_check_shuffle (aCons (dVar 0) aNil)))
    (sRet (dMeth "str" mJoin (dUn (gFmt " " " ") (dC (.str "/"))) (aCons (dComp [1] (iAny (dCall d_circles_of (aCons (dVar 0) aNil))) (gN 1) dYes (dMeth "str" mJoin (dC (.str " ")) (aCons (dComp [2] (iAny (dVar 1)) (gN 2) dYes (dFn bStr (aCons (dVar 2) aNil))) aNil))) aNil))))
def d_write : DF := runF 3 false b_write
def b_l_random : DS := (sSeq (sSet 2 (dVar 1))
    (sSeq (sFor (iAny (dVar 0)) (gN 3)
    (sSet 2 (dOp gMod (dFn bInt (aCons (dOp gAdd (dOp gMul (dVar 2) (dC (.int 31))) (dFn bAbs (aCons (dVar 3) aNil))) aNil)) (dC (.int 2147483647)))))
    (sRetN (dOp gCat (dDisp .lst (aCons (dVar 2) (aCons (dC (.int 0)) aNil))) (dComp [3] (iAny (dVar 0)) (gN 3) (dTest (dOp gGe (dVar 3) (dOp gPow (dC (.int 10)) (dC (.int 18))))) (dVar 3))))))
def d_l_random : DF := runF 4 false b_l_random
def b_l_below : DS := (sSeq (sIf (dAnd (dTest (dOp gEq (dOp gIx (dOwn 0) (dC (.int 1))) (dC (.int 0)))) (dTest (dOp gGt (dFn bLen (aCons (dOwn 0) aNil)) (dC (.int 2)))))
    (sSetIx 0 (dMut 0 mPopAt (aCons (dC (.int 2)) aNil)) (dC (.int 1)))
    sNil)
    (sSeq (sIf (dTest (dOp gGt (dOp gIx (dOwn 0) (dC (.int 1))) (dC (.int 0))))
    (sSeq (sSet 2 (dOp gMod (dFn bInt (aCons (dOp gIx (dOwn 0) (dC (.int 1))) aNil)) (dVar 1)))
    (sSeq (sSetIx 0 (dOp gDiv (dOp gIx (dOwn 0) (dC (.int 1))) (dVar 1)) (dC (.int 1)))
    (sRet (dVar 2))))
    sNil)
    (sSeq (sSetIx 0 (dOp gMod (dFn bInt (aCons (dOp gAdd (dOp gMul (dOp gIx (dOwn 0) (dC (.int 0))) (dC (.int 48271))) (dC (.int 11))) aNil)) (dC (.int 2147483647))) (dC (.int 0)))
    (sRet (dOp gMod (dFn bInt (aCons (dOp gDiv (dOp gIx (dOwn 0) (dC (.int 0))) (dC (.int 64))) aNil)) (dVar 1))))))
def d_l_below : DF := runF 3 true b_l_below
def b_l_pick : DS := (sRet (dOp gIx (dVar 1) (dCallIO d_l_below (aCons (dOwn 0) (aCons (dFn bLen (aCons (dVar 1) aNil)) aNil)))))
def d_l_pick : DF := runF 2 true b_l_pick
def b_l_equal (rec : DF) : DS := (sSeq (sIf (dTest (dOp gIsN (dVar 1) (dC .non)))
    (sRet (dOp gIsN (dVar 0) (dC .non)))
    sNil)
    (sSeq (sIf (dTest (dUn (gIsi .bool) (dVar 1)))
    (sRet (dAndV (dUn (gIsi .bool) (dVar 0)) (dOp gEq (dVar 0) (dVar 1))))
    sNil)
    (sSeq (sIf (dTest (dUn (gIsi .int) (dVar 1)))
    (sRet (dAndV (dUn (gIsi .int) (dVar 0)) (dAndV (dUn notOp (dUn (gIsi .bool) (dVar 0))) (dOp gEq (dVar 0) (dVar 1)))))
    sNil)
    (sSeq (sIf (dTest (dUn (gIsi .str) (dVar 1)))
    (sRet (dAndV (dUn (gIsi .str) (dVar 0)) (dOp gEq (dVar 0) (dVar 1))))
    sNil)
    (sSeq (sIf (dTest (dUn (gIsi .dict) (dVar 1)))
    (sSeq (sIf (dOr (dNot (dTest (dUn (gIsi .dict) (dVar 0)))) (dTest (dOp gNe (dFn bListA (aCons (dVar 0) aNil)) (dFn bSorted (aCons (dFn bListA (aCons (dVar 1) aNil)) aNil)))))
    (sRet (dC (.bl false)))
    sNil)
    (sRet (dFn bAll (aCons (dComp [3] (iAny (dFn bListA (aCons (dVar 0) aNil))) (gN 3) dYes (dCall rec (aCons (dOp gIx (dVar 0) (dVar 3)) (aCons (dOp gIx (dVar 1) (dVar 3)) aNil)))) aNil))))
    sNil)
    (sSeq (sIf (dTest (dOp gNe (dUn (gIsi .tuple) (dVar 1)) (dUn (gIsi .tuple) (dVar 0))))
    (sRet (dC (.bl false)))
    sNil)
    (sSeq (sIf (dTest (dOp gNe (dUn (gIsi .list) (dVar 1)) (dUn (gIsi .list) (dVar 0))))
    (sRet (dC (.bl false)))
    sNil)
    (sSeq (sIf (dTest (dOp gNe (dFn bLen (aCons (dVar 0) aNil)) (dFn bLen (aCons (dVar 1) aNil))))
    (sRet (dC (.bl false)))
    sNil)
    (sRet (dFn bAll (aCons (dComp [2] (iFn range1 (aCons (dFn bLen (aCons (dVar 1) aNil)) aNil)) (gN 2) dYes (dCall rec (aCons (dOp gIx (dVar 0) (dVar 2)) (aCons (dOp gIx (dVar 1) (dVar 2)) aNil)))) aNil)))))))))))
def d_l_equal : Nat → DF
  | 0 => fun _ => .no
  | n + 1 => runF 4 false (b_l_equal (d_l_equal n))
def b_l_shuffle : DS := (sSeq (sPar [3, 4] (pCons (dUn bListR (dVar 1)) (pCons (dDisp .lst aNil) pNil)))
    (sSeq (sFor (iFn range1 (aCons (dVar 1) aNil)) (gN 2)
    (sSeq (sSet 5 (dOp gIx (dVar 3) (dCallIO d_l_below (aCons (dOwn 0) (aCons (dFn bLen (aCons (dVar 3) aNil)) aNil)))))
    (sSeq (sSet 3 (dComp [7] (iAny (dVar 3)) (gN 7) (dTest (dOp gNe (dVar 7) (dVar 5))) (dVar 7)))
    (sExpr (dMut 4 mAppend (aCons (dVar 5) aNil))))))
    (sSeq (sIf (dAnd (dTest (dOp gEq (dCallIO d_l_below (aCons (dOwn 0) (aCons (dC (.int 4)) aNil))) (dC (.int 0)))) (dTest (dOp gGt (dVar 1) (dC (.int 0)))))
    (sSeq (sSet 6 (dCallIO d_l_below (aCons (dOwn 0) (aCons (dVar 1) aNil))))
    (sRet (dFn bTuple (aCons (dComp [2] (iFn range1 (aCons (dVar 1) aNil)) (gN 2) dYes (dOp gMod (dOp gAdd (dVar 2) (dVar 6)) (dVar 1))) aNil))))
    sNil)
    (sRet (dFn bTuple (aCons (dOwn 4) aNil))))))
def d_l_shuffle : DF := runF 8 true b_l_shuffle
def b_l_circles : DS := (sSeq (sPar [2, 3] (pCons (dDisp .lst aNil) (pCons (dDisp .lst aNil) pNil)))
    (sSeq (sFor (iFn range1 (aCons (dFn bLen (aCons (dVar 0) aNil)) aNil)) (gN 1)
    (sIf (dTest (dOp gNotInV (dVar 1) (dVar 3)))
    (sSeq (sSet 4 (dDisp .lst (aCons (dVar 1) aNil)))
    (sSeq (sFor (iFn range1 (aCons (dFn bLen (aCons (dVar 0) aNil)) aNil)) (gN 5)
    (sIf (dTest (dOp gNotInV (dOp gIx (dVar 0) (dOp gIx (dOwn 4) (dUn gNeg (dC (.int 1))))) (dOwn 4)))
    (sExpr (dMut 4 mAppend (aCons (dOp gIx (dVar 0) (dOp gIx (dOwn 4) (dUn gNeg (dC (.int 1))))) aNil)))
    sNil))
    (sSeq (sSet 3 (dOp gAdd (dVar 3) (dOwn 4)))
    (sExpr (dMut 2 mAppend (aCons (dFn bTuple (aCons (dOwn 4) aNil)) aNil))))))
    sNil))
    (sRet (dOwn 2))))
def d_l_circles : DF := runF 6 false b_l_circles
def b_l_common : DS := (sSeq (sPar [3, 4] (pCons (dVar 0) (pCons (dVar 1) pNil)))
    (sSeq (sFor (iFn range1 (aCons (dC (.int 200)) aNil)) (gN 2)
    (sIf (dTest (dOp gGt (dVar 4) (dC (.int 0))))
    (sPar [3, 4] (pCons (dVar 4) (pCons (dOp gMod (dVar 3) (dVar 4)) pNil)))
    sNil))
    (sRet (dOp gDiv (dOp gMul (dVar 0) (dVar 1)) (dVar 3)))))
def d_l_common : DF := runF 5 false b_l_common
def b_l_round : DS := (sSeq (sSet 1 (dC (.int 1)))
    (sSeq (sFor (iAny (dVar 0)) (gN 2)
    (sSet 1 (dCall d_l_common (aCons (dVar 1) (aCons (dVar 2) aNil)))))
    (sRet (dVar 1))))
def d_l_round : DF := runF 3 false b_l_round
def b_primes_to : DS := (sSeq (sPar [2, 3] (pCons (dOp gRep (dDisp .lst (aCons (dC (.bl true)) aNil)) (dOp gAdd (dVar 0) (dC (.int 1)))) (pCons (dDisp .lst aNil) pNil)))
    (sSeq (sFor (iFn range2 (aCons (dC (.int 2)) (aCons (dOp gAdd (dVar 0) (dC (.int 1))) aNil))) (gN 1)
    (sIf (dTest (dOp gIx (dOwn 2) (dVar 1)))
    (sSeq (sExpr (dMut 3 mAppend (aCons (dVar 1) aNil)))
    (sFor (iFn range3 (aCons (dOp gMul (dVar 1) (dVar 1)) (aCons (dOp gAdd (dVar 0) (dC (.int 1))) (aCons (dVar 1) aNil)))) (gN 4)
    (sSetIx 2 (dC (.bl false)) (dVar 4))))
    sNil))
    (sRet (dOwn 3))))
def d_primes_to : DF := runF 5 false b_primes_to
def b_table_to : DS := (sSeq (sSet 1 (dOp gRep (dDisp .lst (aCons (dC (.int 1)) aNil)) (dOp gAdd (dVar 0) (dC (.int 1)))))
    (sSeq (sFor (iAny (dCall d_primes_to (aCons (dVar 0) aNil))) (gN 2)
    (sFor (iTwo gRev (dVar 2) (dOp gAdd (dVar 0) (dC (.int 1)))) (gN 3)
    (sSeq (sSet 4 (dVar 2))
    (whl (dTest (dOp gLe (dVar 4) (dVar 3)))
    (sSeq (sSetIx 1 (dFn bMax (aCons (dOp gIx (dOwn 1) (dVar 3)) (aCons (dOp gMul (dOp gIx (dOwn 1) (dOp gSubt (dVar 3) (dVar 4))) (dVar 4)) aNil))) (dVar 3))
    (sSet 4 (dOp gMul (dVar 4) (dVar 2)))) WF))))
    (sRet (dOwn 1))))
def d_table_to : DF := runF 5 false b_table_to
def b_powers_of : DS := (sSeq (sPar [1, 2, 3] (pCons (dDisp .lst aNil) (pCons (dC (.int 2)) (pCons (dVar 0) pNil))))
    (sSeq (whl (dTest (dOp gLe (dOp gMul (dVar 2) (dVar 2)) (dVar 3)))
    (sSeq (sSet 4 (dC (.int 1)))
    (sSeq (whl (dTest (dOp gEq (dOp gMod (dVar 3) (dVar 2)) (dC (.int 0))))
    (sPar [3, 4] (pCons (dOp gDiv (dVar 3) (dVar 2)) (pCons (dOp gMul (dVar 4) (dVar 2)) pNil))) WF)
    (sSeq (sIf (dTest (dOp gGt (dVar 4) (dC (.int 1))))
    (sExpr (dMut 1 mAppend (aCons (dVar 4) aNil)))
    sNil)
    (sAug 2 addInt (dC (.int 1)))))) WF)
    (sRetN (dFn bSorted (aCons (dIf (dTest (dOp gGt (dVar 3) (dC (.int 1)))) (dOp gAdd (dOwn 1) (dDisp .lst (aCons (dVar 3) aNil))) (dOwn 1)) aNil)))))
def d_powers_of : DF := runF 5 false b_powers_of
def b_check_cards : DS := (sIf (dNot (dTest (dCall d_is_from (aCons (dVar 0) (aCons (dVar 1) (aCons (dVar 2) aNil))))))
    (fun env => RS.ex ⟨3, none⟩ env)
    sNil)
def d_check_cards : DF := runF 3 false b_check_cards
def b_greatest : DS := (sSeq (sExpr (dCall d_check_cards (aCons (dVar 0) (aCons (dC (.int 0)) (aCons (dC (.int 2000)) aNil)))))
    (sRet (dOp gIx (dCall d_table_to (aCons (dVar 0) aNil)) (dVar 0))))
def d_greatest : DF := runF 1 false b_greatest
def b_lot_of : DS := (sSeq (sExpr (dCall d_check_cards (aCons (dVar 0) (aCons (dC (.int 0)) (aCons (dC (.int 2000)) aNil)))))
    (sRet (dFn bTuple (aCons (dCall d_powers_of (aCons (dOp gIx (dCall d_table_to (aCons (dVar 0) aNil)) (dVar 0)) aNil)) aNil))))
def d_lot_of : DF := runF 1 false b_lot_of
def b_rises : DS := (sSeq (sExpr (dCall d_check_cards (aCons (dVar 0) (aCons (dC (.int 0)) (aCons (dC (.int 2000)) aNil)))))
    (sSeq (sSet 1 (dCall d_table_to (aCons (dVar 0) aNil)))
    (sRetN (dComp [2] (iFn range2 (aCons (dC (.int 1)) (aCons (dOp gAdd (dVar 0) (dC (.int 1))) aNil))) (gN 2) (dTest (dOp gGt (dOp gIx (dVar 1) (dVar 2)) (dOp gIx (dVar 1) (dOp gSubt (dVar 2) (dC (.int 1)))))) (dVar 2)))))
def d_rises : DF := runF 3 false b_rises
def b_l_kinds (rec : DF) : DS := (sSeq (sSet 2 (dIf (dTest (dOp gEq (dVar 0) (dC (.int 0)))) (dDisp .lst (aCons (dDisp .tup aNil) aNil)) (dDisp .lst aNil)))
    (sSeq (sFor (iFn range2 (aCons (dVar 1) (aCons (dOp gAdd (dVar 0) (dC (.int 1))) aNil))) (gN 3)
    (sSet 2 (dOp gAdd (dVar 2) (dComp [4] (iAny (dCall rec (aCons (dOp gSubt (dVar 0) (dVar 3)) (aCons (dVar 3) aNil)))) (gN 4) dYes (dOp gAdd (dDisp .tup (aCons (dVar 3) aNil)) (dVar 4))))))
    (sRet (dVar 2))))
def d_l_kinds : Nat → DF
  | 0 => fun _ => .no
  | n + 1 => runF 5 false (b_l_kinds (d_l_kinds n))
def b_l_powers : DS := (sSeq (sPar [2, 3, 4] (pCons (dDisp .lst aNil) (pCons (dVar 0) (pCons (dC (.int 2)) pNil))))
    (sSeq (sFor (iFn range1 (aCons (dC (.int 40000)) aNil)) (gN 1)
    (sIf (dAnd (dTest (dOp gGt (dVar 3) (dC (.int 1)))) (dTest (dOp gLe (dOp gMul (dVar 4) (dVar 4)) (dVar 3))))
    (sSeq (sSet 5 (dC (.int 1)))
    (sSeq (sFor (iFn range1 (aCons (dC (.int 40)) aNil)) (gN 6)
    (sIf (dTest (dOp gEq (dOp gMod (dVar 3) (dVar 4)) (dC (.int 0))))
    (sPar [3, 5] (pCons (dOp gDiv (dVar 3) (dVar 4)) (pCons (dOp gMul (dVar 5) (dVar 4)) pNil)))
    sNil))
    (sSeq (sIf (dTest (dOp gGt (dVar 5) (dC (.int 1))))
    (sExpr (dMut 2 mAppend (aCons (dVar 5) aNil)))
    sNil)
    (sSet 4 (dOp gAdd (dVar 4) (dC (.int 1)))))))
    sNil))
    (sRetN (dFn bSorted (aCons (dOp gAdd (dOwn 2) (dIf (dTest (dOp gGt (dVar 3) (dC (.int 1)))) (dDisp .lst (aCons (dVar 3) aNil)) (dDisp .lst aNil))) aNil)))))
def d_l_powers : DF := runF 7 false b_l_powers
def b_l_table : DS := (sSeq (sSet 1 (dOp gMul (dDisp .lst (aCons (dC (.int 1)) aNil)) (dOp gAdd (dVar 0) (dC (.int 1)))))
    (sSeq (sFor (iFn range2 (aCons (dC (.int 2)) (aCons (dOp gAdd (dVar 0) (dC (.int 1))) aNil))) (gN 2)
    (sIf (dTest (dOp gEq (dComp [6] (iFn range2 (aCons (dC (.int 2)) (aCons (dVar 2) aNil))) (gN 6) (dTest (dOp gEq (dOp gMod (dVar 2) (dVar 6)) (dC (.int 0)))) (dVar 6)) (dDisp .lst aNil)))
    (sSeq (sPar [4, 5] (pCons (dFn bListA (aCons (dVar 1) aNil)) (pCons (dVar 2) pNil)))
    (sSeq (sFor (iFn range1 (aCons (dC (.int 12)) aNil)) (gN 3)
    (sSeq (sIf (dTest (dOp gLe (dVar 5) (dVar 0)))
    (sFor (iFn range2 (aCons (dVar 5) (aCons (dOp gAdd (dVar 0) (dC (.int 1))) aNil))) (gN 7)
    (sSetIx 4 (dFn bMax (aCons (dDisp .lst (aCons (dOp gIx (dOwn 4) (dVar 7)) (aCons (dOp gMul (dOp gIx (dVar 1) (dOp gSubt (dVar 7) (dVar 5))) (dVar 5)) aNil))) aNil)) (dVar 7)))
    sNil)
    (sSet 5 (dOp gMul (dVar 5) (dVar 2)))))
    (sSeq (sFrz 4) (sSet 1 (dOwn 4)))))
    sNil))
    (sRet (dVar 1))))
def d_l_table : DF := runF 8 false b_l_table
def b_check_number : DS := (sIf (dNot (dTest (dCall d_is_from (aCons (dVar 0) (aCons (dC (.int 1)) (aCons (dVar 1) aNil))))))
    (fun env => RS.ex ⟨4, none⟩ env)
    sNil)
def d_check_number : DF := runF 2 false b_check_number
def b_least_cards : DS := (sSeq (sExpr (dCall d_check_number (aCons (dVar 0) (aCons (dC (.int 1000000000)) aNil))))
    (sRet (dFn bSum (aCons (dCall d_powers_of (aCons (dVar 0) aNil)) aNil))))
def d_least_cards : DF := runF 1 false b_least_cards
def b_least_for : DS := (sSeq (sExpr (dCall d_check_number (aCons (dVar 0) (aCons (dC (.int 1000000000000000000000000000000)) aNil))))
    (sSeq (sFor (iAny (dDisp .tup (aCons (dC (.int 200)) (aCons (dC (.int 2000)) aNil)))) (gN 1)
    (sSeq (sSet 2 (dCall d_table_to (aCons (dVar 1) aNil)))
    (sFor (iFn range1 (aCons (dOp gAdd (dVar 1) (dC (.int 1))) aNil)) (gN 3)
    (sIf (dTest (dOp gGe (dOp gIx (dVar 2) (dVar 3)) (dVar 0)))
    (sRet (dVar 3))
    sNil))))
    (sRet (dC .non))))
def d_least_for : DF := runF 4 false b_least_for
def b_is_power : DS := (sRet (dOp gEq (dFn bLen (aCons (dCall d_powers_of (aCons (dVar 0) aNil)) aNil)) (dC (.int 1))))
def d_is_power : DF := runF 1 false b_is_power
def b_check_lot : DS := (sSeq (sIf (dNot (dTest (dUn (gIsi .tuple) (dVar 1))))
    (sRaiseA 5 "index" (dC .non))
    sNil)
    (sSeq (sSet 2 (dC (.int 1)))
    (sSeq (sFor (iFnV bEnum (aCons (dVar 1) aNil)) (gTp 2 (gsCons (gN 3) (gsCons (gN 4) gsNil)))
    (sSeq (sIf (dOr (dNot (dTest (dCall d_is_from (aCons (dVar 4) (aCons (dC (.int 2)) (aCons (dC (.int 2000)) aNil)))))) (dOr (dNot (dTest (dCall d_is_power (aCons (dVar 4) aNil)))) (dAnd (dTest (dOp gGt (dVar 3) (dC (.int 0)))) (dTest (dOp gLe (dVar 4) (dOp gIx (dVar 1) (dOp gSubt (dVar 3) (dC (.int 1)))))))))
    (sRaiseA 5 "index" (dVar 3))
    sNil)
    (sIf (dTest (dFn bAny (aCons (dComp2 [5, 6] [6] (iAny (dSl gSlV (dVar 1) pNone (pSome (dVar 3)))) (gN 5) dYes (iAny (dCall d_primes_to (aCons (dVar 4) aNil))) (gN 6) dYes (dAndV (dOp gEq (dOp gMod (dVar 4) (dVar 6)) (dC (.int 0))) (dOp gEq (dOp gMod (dVar 5) (dVar 6)) (dC (.int 0))))) aNil)))
    (sRaiseA 5 "index" (dVar 3))
    sNil)))
    (sIf (dTest (dOp gGt (dFn bSum (aCons (dFn bListA (aCons (dVar 1) aNil)) aNil)) (dVar 0)))
    (sRaiseA 5 "index" (dC .non))
    sNil))))
def d_check_lot : DF := runF 7 false b_check_lot
def b_betters : DS := (sSeq (sExpr (dCall d_check_cards (aCons (dVar 0) (aCons (dC (.int 0)) (aCons (dC (.int 2000)) aNil)))))
    (sSeq (sExpr (dCall d_check_lot (aCons (dVar 0) (aCons (dVar 1) aNil))))
    (sSeq (sSet 2 (dCall d_lot_of (aCons (dVar 0) aNil)))
    (sSeq (sIf (dTest (dOp gEq (dVar 2) (dVar 1)))
    (sRet (dC .non))
    sNil)
    (sRet (dDisp .tup (aCons (dFn bTuple (aCons (dComp [3] (iAny (dVar 1)) (gN 3) (dTest (dOp gNotInV (dVar 3) (dVar 2))) (dVar 3)) aNil)) (aCons (dFn bTuple (aCons (dComp [3] (iAny (dVar 2)) (gN 3) (dTest (dOp gNotInV (dVar 3) (dVar 1))) (dVar 3)) aNil)) aNil))))))))
def d_betters : DF := runF 4 false b_betters
def b_kinds_of (rec : DF) : DS := (sSeq (sIf (dTest (dOp gEq (dVar 0) (dC (.int 0))))
    (sRetN (dDisp .lst (aCons (dDisp .tup aNil) aNil)))
    sNil)
    (sSeq (sSet 2 (dDisp .lst aNil))
    (sSeq (sFor (iFn range2 (aCons (dVar 1) (aCons (dOp gAdd (dVar 0) (dC (.int 1))) aNil))) (gN 3)
    (sIf (dOr (dTest (dOp gEq (dVar 3) (dVar 0))) (dTest (dOp gGe (dOp gSubt (dVar 0) (dVar 3)) (dVar 3))))
    (sExpr (dMut 2 mExtend (aCons (dComp [4] (iAny (dCall rec (aCons (dOp gSubt (dVar 0) (dVar 3)) (aCons (dVar 3) aNil)))) (gN 4) dYes (dDisp .tup (aCons (dVar 3) (aStar (dVar 4) aNil)))) aNil)))
    sNil))
    (sRet (dOwn 2)))))
def d_kinds_of : Nat → DF
  | 0 => fun _ => .no
  | n + 1 => runF 5 false (b_kinds_of (d_kinds_of n))
def b_all_rounds : DS := (sSeq (sExpr (dCall d_check_cards (aCons (dVar 0) (aCons (dC (.int 0)) (aCons (dC (.int 40)) aNil)))))
    (sSeq (sSet 1 (dDict (qCons (dC (.int 1)) (dC (.int 0)) qNil)))
    (sSeq (sFor (iFn range2 (aCons (dC (.int 2)) (aCons (dOp gAdd (dVar 0) (dC (.int 1))) aNil))) (gN 2)
    (sFor (iAny (dUn gItems (dOwn 1))) (gTp 2 (gsCons (gN 3) (gsCons (gN 4) gsNil)))
    (sSeq (sSet 5 (dCall d_multiple (aCons (dDisp .lst (aCons (dVar 3) (aCons (dVar 2) aNil))) aNil)))
    (sIf (dAnd (dTest (dOp gLe (dOp gAdd (dVar 4) (dVar 2)) (dVar 0))) (dTest (dOp gLt (dOp gAdd (dVar 4) (dVar 2)) (dGet2 (dOwn 1) (dVar 5) (dOp gAdd (dVar 0) (dC (.int 1)))))))
    (sDSet 1 (dOp gAdd (dVar 4) (dVar 2)) (dVar 5))
    sNil))))
    (sRetN (dFn bSorted (aCons (dFn bListA (aCons (dOwn 1) aNil)) aNil))))))
def d_all_rounds : DF := runF 6 false b_all_rounds
def b_most_of : DS := (sRet (dIf (dTest (dOp gGt (dFn bLen (aCons (dVar 0) aNil)) (dC (.int 0)))) (dFn bMax (aCons (dComp [1] (iAny (dVar 0)) (gN 1) dYes (dCall d_multiple (aCons (dVar 1) aNil))) aNil)) (dC .non)))
def d_most_of : DF := runF 2 false b_most_of
def b_moved : DS := (sSeq (sExpr (dCall d_check_cards (aCons (dVar 0) (aCons (dC (.int 0)) (aCons (dC (.int 24)) aNil)))))
    (sRet (dCall d_most_of (aCons (dCall (d_kinds_of 60) (aCons (dVar 0) (aCons (dC (.int 2)) aNil))) aNil))))
def d_moved : DF := runF 1 false b_moved
def b_even_greatest : DS := (sSeq (sExpr (dCall d_check_cards (aCons (dVar 0) (aCons (dC (.int 0)) (aCons (dC (.int 24)) aNil)))))
    (sRet (dCall d_most_of (aCons (dComp [1] (iAny (dCall (d_kinds_of 60) (aCons (dVar 0) (aCons (dC (.int 1)) aNil)))) (gN 1) (dTest (dOp gEq (dOp gMod (dOp gSubt (dVar 0) (dFn bLen (aCons (dVar 1) aNil))) (dC (.int 2))) (dC (.int 0)))) (dVar 1)) aNil))))
def d_even_greatest : DF := runF 2 false b_even_greatest
def b_with_circle : DS := (sSeq (sExpr (dCall d_check_cards (aCons (dVar 0) (aCons (dC (.int 1)) (aCons (dC (.int 24)) aNil)))))
    (sSeq (sIf (dNot (dTest (dCall d_is_from (aCons (dVar 1) (aCons (dC (.int 1)) (aCons (dVar 0) aNil))))))
    (fun env => RS.ex ⟨4, none⟩ env)
    sNil)
    (sRet (dCall d_most_of (aCons (dComp [2] (iAny (dCall (d_kinds_of 60) (aCons (dVar 0) (aCons (dC (.int 1)) aNil)))) (gN 2) (dTest (dOp gInV (dVar 1) (dVar 2))) (dVar 2)) aNil)))))
def d_with_circle : DF := runF 3 false b_with_circle
def b_kinds_with : DS := (sSeq (sExpr (dCall d_check_cards (aCons (dVar 0) (aCons (dC (.int 0)) (aCons (dC (.int 24)) aNil)))))
    (sSeq (sExpr (dCall d_check_number (aCons (dVar 1) (aCons (dOp gPow (dC (.int 10)) (dC (.int 9))) aNil))))
    (sRetN (dComp [2] (iAny (dCall (d_kinds_of 60) (aCons (dVar 0) (aCons (dC (.int 1)) aNil)))) (gN 2) (dTest (dOp gEq (dCall d_multiple (aCons (dVar 2) aNil)) (dVar 1))) (dVar 2)))))
def d_kinds_with : DF := runF 3 false b_kinds_with
def b_shuffles_of : DS := (sSeq (sSet 2 (dC (.int 1)))
    (sSeq (sFor (iFn range2 (aCons (dC (.int 2)) (aCons (dOp gAdd (dVar 0) (dC (.int 1))) aNil))) (gN 3)
    (sSet 2 (dOp gMul (dVar 2) (dVar 3))))
    (sSeq (sFor (iAny (dUn gSrtS (dVar 1))) (gN 4)
    (sSeq (sSet 5 (dMeth "list" mCount (dFn bListA (aCons (dVar 1) aNil)) (aCons (dVar 4) aNil)))
    (sSeq (sFor (iFn range1 (aCons (dVar 5) aNil)) (gN 6)
    (sSet 2 (dOp gDiv (dVar 2) (dVar 4))))
    (sFor (iFn range2 (aCons (dC (.int 2)) (aCons (dOp gAdd (dVar 5) (dC (.int 1))) aNil))) (gN 3)
    (sSet 2 (dOp gDiv (dVar 2) (dVar 3)))))))
    (sRet (dVar 2)))))
def d_shuffles_of : DF := runF 7 false b_shuffles_of
def b_count_with : DS := (sRet (dFn bSum (aCons (dComp [2] (iAny (dCall d_kinds_with (aCons (dVar 0) (aCons (dVar 1) aNil)))) (gN 2) dYes (dCall d_shuffles_of (aCons (dVar 0) (aCons (dVar 2) aNil)))) aNil)))
def d_count_with : DF := runF 3 false b_count_with
def b_l_every : DS := (sSeq (sSet 1 (dDisp .lst (aCons (dDisp .tup aNil) aNil)))
    (sSeq (sFor (iFn range1 (aCons (dVar 0) aNil)) (gN 2)
    (sSeq (sSet 3 (dDisp .lst aNil))
    (sSeq (sFor (iAny (dVar 1)) (gN 4)
    (sSet 3 (dOp gAdd (dVar 3) (dComp [5] (iFn range1 (aCons (dVar 0) aNil)) (gN 5) (dTest (dOp gNotInV (dVar 5) (dVar 4))) (dOp gAdd (dVar 4) (dDisp .tup (aCons (dVar 5) aNil)))))))
    (sSet 1 (dVar 3)))))
    (sRet (dVar 1))))
def d_l_every : DF := runF 6 false b_l_every
def b_check_packs : DS := (sSeq (sIf (dOr (dNot (dTest (dUn (gIsi .tuple) (dVar 0)))) (dNot (dTest (dChain gLe gLe (dC (.int 1)) (dFn bLen (aCons (dVar 0) aNil)) (dC (.int 3))))))
    (sRaiseA 6 "index" (dC .non))
    sNil)
    (sFor (iFnV bEnum (aCons (dVar 0) aNil)) (gTp 2 (gsCons (gN 1) (gsCons (gN 2) gsNil)))
    (sIf (dNot (dTest (dCall d_is_from (aCons (dVar 2) (aCons (dC (.int 0)) (aCons (dC (.int 15)) aNil))))))
    (sRaiseA 6 "index" (dVar 1))
    sNil)))
def d_check_packs : DF := runF 3 false b_check_packs
def b_packed : DS := (sSeq (sExpr (dCall d_check_packs (aCons (dVar 0) aNil)))
    (sSeq (sSet 1 (dDictT (dVar 0) (dC (.int 1))))
    (sSeq (sFor (iAny (dCall d_primes_to (aCons (dFn bMaxA (aCons (dVar 0) aNil)) aNil))) (gN 2)
    (sFor (iAny (dUn gItemsT (dOwn 1))) (gTp 2 (gsCons (gN 3) (gsCons (gN 4) gsNil)))
    (sSeq (sSet 5 (dVar 2))
    (whl (dTest (dOp gLe (dVar 5) (dFn bMaxA (aCons (dVar 3) aNil))))
    (sSeq (sFor (iFnV bEnum (aCons (dVar 3) aNil)) (gTp 2 (gsCons (gN 6) (gsCons (gN 7) gsNil)))
    (sIf (dTest (dOp gLe (dVar 5) (dVar 7)))
    (sSeq (sSet 8 (dDisp .tup (aStar (dSl gSlV (dVar 3) pNone (pSome (dVar 6))) (aCons (dOp gSubt (dVar 7) (dVar 5)) (aStar (dSl gSlV (dVar 3) (pSome (dOp gAdd (dVar 6) (dC (.int 1)))) pNone) aNil)))))
    (sDSet 1 (dFn bMaxA (aCons (dGet2 (dOwn 1) (dVar 8) (dC (.int 0))) (aCons (dOp gMul (dVar 4) (dVar 5)) aNil))) (dVar 8)))
    sNil))
    (sSet 5 (dOp gMul (dVar 5) (dVar 2)))) WF))))
    (sRet (dFn bMaxA (aCons (dUn gValsT (dOwn 1)) aNil))))))
def d_packed : DF := runF 9 false b_packed
def b_falling (rec : DF) : DS := (sSeq (sSet 3 (dDisp .lst (aCons (dDisp .tup (aCons (dC (.int 1)) (aCons (dC (.int 1)) aNil))) aNil)))
    (sSeq (sIf (dTest (dOp gEq (dFn bLen (aCons (dVar 1) aNil)) (dC (.int 0))))
    (sRet (dOwn 3))
    sNil)
    (sSeq (sPar [4, 5] (pCons (dOp gIx (dVar 1) (dC (.int 0))) (pCons (dC (.int 1)) pNil)))
    (sSeq (whl (dAnd (dTest (dOp gLe (dVar 4) (dVar 0))) (dTest (dOp gLe (dVar 5) (dVar 2))))
    (sSeq (sFor (iAny (dCall rec (aCons (dOp gDiv (dVar 0) (dVar 4)) (aCons (dSl gSlV (dVar 1) (pSome (dC (.int 1))) pNone) (aCons (dVar 5) aNil))))) (gTp 2 (gsCons (gN 6) (gsCons (gN 7) gsNil)))
    (sExpr (dMut 3 mAppend (aCons (dDisp .tup (aCons (dOp gMul (dVar 4) (dVar 6)) (aCons (dOp gMul (dVar 7) (dOp gAdd (dVar 5) (dC (.int 1)))) aNil))) aNil))))
    (sPar [4, 5] (pCons (dOp gMul (dVar 4) (dOp gIx (dVar 1) (dC (.int 0)))) (pCons (dOp gAdd (dVar 5) (dC (.int 1))) pNil)))) WF)
    (sRet (dOwn 3))))))
def d_falling : Nat → DF
  | 0 => fun _ => .no
  | n + 1 => runF 8 false (b_falling (d_falling n))
def b_records_to : DS := (sSeq (sSet 1 (dDisp .lst aNil))
    (sSeq (sFor (iAny (dFn bSortedA (aCons (dCall (d_falling 60) (aCons (dVar 0) (aCons (dCall d_primes_to (aCons (dC (.int 120)) aNil)) (aCons (dC (.int 200)) aNil)))) aNil))) (gTp 2 (gsCons (gN 2) (gsCons (gN 3) gsNil)))
    (sIf (dOr (dTest (dOp gEq (dFn bLen (aCons (dOwn 1) aNil)) (dC (.int 0)))) (dTest (dOp gGt (dVar 3) (dOp gIx (dOp gIx (dOwn 1) (dUn gNeg (dC (.int 1)))) (dC (.int 1))))))
    (sExpr (dMut 1 mAppend (aCons (dDisp .tup (aCons (dVar 2) (aCons (dVar 3) aNil))) aNil)))
    sNil))
    (sRet (dOwn 1))))
def d_records_to : DF := runF 4 false b_records_to
def b_records : DS := (sSeq (sExpr (dCall d_check_number (aCons (dVar 0) (aCons (dC (.int 1000000000)) aNil))))
    (sRetN (dComp [1, 2] (iAny (dCall d_records_to (aCons (dVar 0) aNil))) (gTp 2 (gsCons (gN 1) (gsCons (gN 2) gsNil))) dYes (dVar 1))))
def d_records : DF := runF 3 false b_records
def b_most_divisors : DS := (sSeq (sExpr (dCall d_check_number (aCons (dVar 0) (aCons (dC (.int 1000000000000000000000000000000)) aNil))))
    (sRet (dOp gIx (dCall d_records_to (aCons (dVar 0) aNil)) (dUn gNeg (dC (.int 1))))))
def d_most_divisors : DF := runF 1 false b_most_divisors
def b_number_in : DS := (sSeq (sIf (dOr (dNot (dTest (dChain gLe gLe (dC (.int 1)) (dFn bLen (aCons (dVar 0) aNil)) (dC (.int 2))))) (dOr (dNot (dTest (dFn bAll (aCons (dComp [1] (iAny (dVar 0)) (gN 1) dYes (dOp gInV (dVar 1) (dC (.str "0123456789")))) aNil)))) (dAnd (dTest (dOp gEq (dOp gIx (dVar 0) (dC (.int 0))) (dC (.str "0")))) (dTest (dOp gNe (dVar 0) (dC (.str "0")))))))
    (sRet (dC .non))
    sNil)
    (sRet (dIf (dTest (dOp gLt (dFn bInt (aCons (dVar 0) aNil)) (dC (.int 60)))) (dFn bInt (aCons (dVar 0) aNil)) (dC .non))))
def d_number_in : DF := runF 2 false b_number_in
def b_least_free : DS := (sSeq (sSet 1 (dC (.int 0)))
    (sSeq (whl (dTest (dOp gInV (dVar 1) (dVar 0)))
    (sAug 1 addInt (dC (.int 1))) WF)
    (sRet (dVar 1))))
def d_least_free : DF := runF 2 false b_least_free
def b_wall : DS := (whl (dTest (dC (.bl true)))
    sNil WF)
def d_wall : DF := runF 1 false b_wall
def b_product_to : DS := (sSeq (sSet 1 (dC (.int 1)))
    (sSeq (sFor (iFn range2 (aCons (dC (.int 2)) (aCons (dOp gAdd (dVar 0) (dC (.int 1))) aNil))) (gN 2)
    (sSet 1 (dOp gMul (dVar 1) (dVar 2))))
    (sRet (dVar 1))))
def d_product_to : DF := runF 3 false b_product_to
def b_commuting_by : DS := (sSeq (sPar [2, 3] (pCons (dComp [4] (iAny (dCall d_circles_of (aCons (dVar 0) aNil))) (gN 4) dYes (dFn bLen (aCons (dVar 4) aNil))) (pCons (dC (.int 1)) pNil)))
    (sSeq (sFor (iAny (dVar 2)) (gN 1)
    (sSet 3 (dOp gMul (dVar 3) (dVar 1))))
    (sSeq (sFor (iAny (dUn gSrtS (dVar 2))) (gN 1)
    (sSet 3 (dOp gMul (dVar 3) (dCall d_product_to (aCons (dMeth "list" mCount (dVar 2) (aCons (dVar 1) aNil)) aNil)))))
    (sRet (dVar 3)))))
def d_commuting_by : DF := runF 5 false b_commuting_by
def b_commuting : DS := (sSeq (sExpr (dCall d_check_shuffle (aCons (dVar 0) aNil)))
    (sRet (dCall d_commuting_by (aCons (dVar 0) aNil))))
def d_commuting : DF := runF 1 false b_commuting
def b_check_two : DS := (sSeq (sExpr (dCall d_check_shuffle (aCons (dVar 0) aNil)))
    (sSeq (sExpr (dCall d_check_shuffle (aCons (dVar 1) aNil)))
    (sIf (dTest (dOp gNe (dFn bLen (aCons (dVar 0) aNil)) (dFn bLen (aCons (dVar 1) aNil))))
    (fun env => RS.ex ⟨1, none⟩ env)
    sNil)))
def d_check_two : DF := runF 2 false b_check_two
def b_does_lead : DS := (sSeq (sExpr (dCall d_check_two (aCons (dVar 0) (aCons (dVar 1) aNil))))
    (sSeq (sIf (dOr (dNot (dTest (dUn (gIsi .tuple) (dVar 2)))) (dNot (dTest (dFn bAll (aCons (dComp [3] (iAny (dVar 2)) (gN 3) dYes (dCall d_is_from (aCons (dVar 3) (aCons (dC (.int 0)) (aCons (dOp gSubt (dFn bLen (aCons (dVar 0) aNil)) (dC (.int 1))) aNil))))) aNil)))))
    (sRet (dC (.bl false)))
    sNil)
    (sSeq (sIf (dOr (dTest (dOp gNe (dFn bLen (aCons (dVar 2) aNil)) (dFn bLen (aCons (dVar 0) aNil)))) (dTest (dOp gLt (dUn gLenS (dVar 2)) (dFn bLen (aCons (dVar 2) aNil)))))
    (sRet (dC (.bl false)))
    sNil)
    (sRet (dFn bAll (aCons (dComp [3] (iFn range1 (aCons (dFn bLen (aCons (dVar 0) aNil)) aNil)) (gN 3) dYes (dOp gEq (dOp gIx (dVar 2) (dOp gIx (dVar 0) (dVar 3))) (dOp gIx (dVar 1) (dOp gIx (dVar 2) (dVar 3))))) aNil))))))
def d_does_lead : DF := runF 4 false b_does_lead
def b_l_all_shuffles : DS := (sSeq (sSet 1 (dDisp .lst (aCons (dDisp .tup aNil) aNil)))
    (sSeq (sFor (iFn range1 (aCons (dVar 0) aNil)) (gN 2)
    (sSeq (sSet 3 (dDisp .lst aNil))
    (sSeq (sFor (iAny (dVar 1)) (gN 4)
    (sSet 3 (dOp gAdd (dVar 3) (dComp [5] (iFn range1 (aCons (dVar 0) aNil)) (gN 5) (dTest (dOp gNotInV (dVar 5) (dVar 4))) (dOp gAdd (dVar 4) (dDisp .tup (aCons (dVar 5) aNil)))))))
    (sSet 1 (dVar 3)))))
    (sRet (dVar 1))))
def d_l_all_shuffles : DF := runF 6 false b_l_all_shuffles
def b_check_times : DS := (sIf (dNot (dTest (dCall d_is_from (aCons (dVar 0) (aCons (dC (.int 1)) (aCons (dC (.int 1000000000000000000000000000000)) aNil))))))
    (fun env => RS.ex ⟨2, none⟩ env)
    sNil)
def d_check_times : DF := runF 1 false b_check_times
def b_can_join : DS := (sRet (dOp gEq (dCall d_divisor (aCons (dOp gMul (dVar 0) (dVar 1)) (aCons (dVar 2) aNil))) (dVar 0)))
def d_can_join : DF := runF 3 false b_can_join
def b_choose : DS := (sRet (dOp gDiv (dOp gDiv (dCall d_product_to (aCons (dVar 0) aNil)) (dCall d_product_to (aCons (dVar 1) aNil))) (dCall d_product_to (aCons (dOp gSubt (dVar 0) (dVar 1)) aNil))))
def d_choose : DF := runF 2 false b_choose
def b_joins_of : DS := (sSeq (sSet 3 (dDisp .lst (aCons (dC (.int 1)) aNil)))
    (sSeq (sFor (iFn range2 (aCons (dC (.int 1)) (aCons (dOp gAdd (dVar 0) (dC (.int 1))) aNil))) (gN 4)
    (sSeq (sSet 5 (dC (.int 0)))
    (sSeq (sFor (iFn range2 (aCons (dC (.int 1)) (aCons (dOp gAdd (dVar 4) (dC (.int 1))) aNil))) (gN 6)
    (sIf (dTest (dCall d_can_join (aCons (dVar 6) (aCons (dVar 1) (aCons (dVar 2) aNil)))))
    (sSeq (sSet 7 (dOp gMul (dOp gMul (dCall d_choose (aCons (dOp gSubt (dVar 4) (dC (.int 1))) (aCons (dOp gSubt (dVar 6) (dC (.int 1))) aNil))) (dCall d_product_to (aCons (dOp gSubt (dVar 6) (dC (.int 1))) aNil))) (dOp gIx (dOwn 3) (dOp gSubt (dVar 4) (dVar 6)))))
    (sSeq (sFor (iFn range1 (aCons (dOp gSubt (dVar 6) (dC (.int 1))) aNil)) (gN 8)
    (sSet 7 (dOp gMul (dVar 7) (dVar 1))))
    (sAug 5 addInt (dVar 7))))
    sNil))
    (sExpr (dMut 3 mAppend (aCons (dVar 5) aNil))))))
    (sRet (dOp gIx (dOwn 3) (dVar 0)))))
def d_joins_of : DF := runF 9 false b_joins_of
def b_parts_for : DS := (sSeq (sSet 3 (dDisp .lst (aCons (dDisp .lst aNil) aNil)))
    (sSeq (sFor (iFn range2 (aCons (dC (.int 1)) (aCons (dOp gAdd (dVar 0) (dC (.int 1))) aNil))) (gN 4)
    (sSeq (sSet 5 (dC .non))
    (sSeq (sFor (iFn range2 (aCons (dC (.int 1)) (aCons (dOp gAdd (dVar 4) (dC (.int 1))) aNil))) (gN 6)
    (sIf (dAnd (dTest (dOp gIsN (dVar 5) (dC .non))) (dAnd (dTest (dOp gNotN (dOp gIx (dOwn 3) (dOp gSubt (dVar 4) (dVar 6))) (dC .non))) (dTest (dCall d_can_join (aCons (dVar 6) (aCons (dVar 1) (aCons (dVar 2) aNil)))))))
    (sSet 5 (dDisp .lst (aCons (dVar 6) (aStar (dOp gIx (dOwn 3) (dOp gSubt (dVar 4) (dVar 6))) aNil))))
    sNil))
    (sExpr (dMut 3 mAppend (aCons (dVar 5) aNil))))))
    (sRet (dOp gIx (dOwn 3) (dVar 0)))))
def d_parts_for : DF := runF 7 false b_parts_for
def b_joined : DS := (sSeq (sSet 2 (dOp gMul (dFn bLen (aCons (dVar 0) aNil)) (dFn bLen (aCons (dOp gIx (dVar 0) (dC (.int 0))) aNil))))
    (sSeq (sSet 3 (dOp gRep (dDisp .lst (aCons (dC (.int 0)) aNil)) (dVar 2)))
    (sSeq (sFor (iFnV bEnum (aCons (dVar 0) aNil)) (gTp 2 (gsCons (gN 4) (gsCons (gN 5) gsNil)))
    (sFor (iFnV bEnum (aCons (dVar 5) aNil)) (gTp 2 (gsCons (gN 6) (gsCons (gN 7) gsNil)))
    (sSetIx 3 (dVar 7) (dOp gMod (dOp gAdd (dVar 4) (dOp gMul (dVar 6) (dVar 1))) (dVar 2)))))
    (sRet (dOwn 3)))))
def d_joined : DF := runF 8 false b_joined
def b_length_at : DS := (sRet (dOp gIx (dComp [2] (iAny (dCall d_circles_of (aCons (dVar 0) aNil))) (gN 2) (dTest (dOp gInV (dVar 1) (dVar 2))) (dFn bLen (aCons (dVar 2) aNil))) (dC (.int 0))))
def d_length_at : DF := runF 3 false b_length_at
def b_paper : DS := (sSeq (sExpr (dCall d_check_shuffle (aCons (dVar 0) aNil)))
    (sSeq (sSet 1 (dDisp .lst aNil))
    (sSeq (sFor (iAny (dCall d_powers_of (aCons (dCall d_round_by (aCons (dVar 0) aNil)) aNil))) (gN 2)
    (sSeq (sSet 3 (dComp [4] (iFn range1 (aCons (dFn bLen (aCons (dVar 0) aNil)) aNil)) (gN 4) (dTest (dOp gEq (dOp gMod (dCall d_length_at (aCons (dVar 0) (aCons (dVar 4) aNil))) (dVar 2)) (dC (.int 0)))) (dVar 4)))
    (sExpr (dMut 1 mAppend (aCons (dDisp .tup (aCons (dVar 2) (aCons (dOp gIx (dVar 3) (dC (.int 0))) aNil))) aNil)))))
    (sRet (dFn bTuple (aCons (dFn bSortedA (aCons (dOwn 1) aNil)) aNil))))))
def d_paper : DF := runF 5 false b_paper
def b_is_part : DS := (sSeq (sIf (dOr (dNot (dTest (dUn (gIsi .tuple) (dVar 1)))) (dOr (dTest (dOp gNe (dFn bLen (aCons (dVar 1) aNil)) (dC (.int 2)))) (dNot (dTest (dCall d_is_from (aCons (dOp gIx (dVar 1) (dC (.int 1))) (aCons (dC (.int 0)) (aCons (dOp gSubt (dFn bLen (aCons (dVar 0) aNil)) (dC (.int 1))) aNil))))))))
    (sRet (dC (.bl false)))
    sNil)
    (sSeq (sIf (dOr (dNot (dTest (dCall d_is_from (aCons (dOp gIx (dVar 1) (dC (.int 0))) (aCons (dC (.int 2)) (aCons (dFn bLen (aCons (dVar 0) aNil)) aNil)))))) (dNot (dTest (dCall d_is_power (aCons (dOp gIx (dVar 1) (dC (.int 0))) aNil)))))
    (sRet (dC (.bl false)))
    sNil)
    (sRet (dOp gEq (dOp gMod (dCall d_length_at (aCons (dVar 0) (aCons (dOp gIx (dVar 1) (dC (.int 1))) aNil))) (dOp gIx (dVar 1) (dC (.int 0)))) (dC (.int 0))))))
def d_is_part : DF := runF 2 false b_is_part
def b_are_apart : DS := (sRet (dAndV (dOp gNe (dOp gMod (dVar 0) (dVar 1)) (dC (.int 0))) (dOp gNe (dOp gMod (dVar 1) (dVar 0)) (dC (.int 0)))))
def d_are_apart : DF := runF 2 false b_are_apart
def b_shown_by : DS := (sSeq (sExpr (dCall d_check_shuffle (aCons (dVar 0) aNil)))
    (sSeq (sIf (dOr (dNot (dTest (dUn (gIsi .tuple) (dVar 1)))) (dNot (dTest (dFn bAll (aCons (dComp [4] (iAny (dVar 1)) (gN 4) dYes (dCall d_is_part (aCons (dVar 0) (aCons (dVar 4) aNil)))) aNil)))))
    (sRet (dC .non))
    sNil)
    (sSeq (sSet 2 (dC (.int 1)))
    (sSeq (sFor (iFnV bEnum (aCons (dVar 1) aNil)) (gTp 2 (gsCons (gN 3) (gsCons (gN 4) gsNil)))
    (sSeq (sIf (dNot (dTest (dFn bAll (aCons (dComp [5] (iAny (dSl gSlV (dVar 1) pNone (pSome (dVar 3)))) (gN 5) dYes (dCall d_are_apart (aCons (dOp gIx (dVar 4) (dC (.int 0))) (aCons (dOp gIx (dVar 5) (dC (.int 0))) aNil)))) aNil))))
    (sRet (dC .non))
    sNil)
    (sSet 2 (dOp gMul (dVar 2) (dOp gIx (dVar 4) (dC (.int 0)))))))
    (sRet (dVar 2))))))
def d_shown_by : DF := runF 6 false b_shown_by
def b_check_kind : DS := (sSeq (sIf (dOr (dNot (dTest (dUn (gIsi .tuple) (dVar 0)))) (dNot (dTest (dFn bAll (aCons (dComp [1] (iAny (dVar 0)) (gN 1) dYes (dCall d_is_from (aCons (dVar 1) (aCons (dC (.int 1)) (aCons (dC (.int 60)) aNil))))) aNil)))))
    (fun env => RS.ex ⟨7, none⟩ env)
    sNil)
    (sIf (dOr (dTest (dOp gNe (dFn bListA (aCons (dVar 0) aNil)) (dFn bSorted (aCons (dVar 0) aNil)))) (dTest (dOp gGt (dFn bSum (aCons (dVar 0) aNil)) (dC (.int 60)))))
    (fun env => RS.ex ⟨7, none⟩ env)
    sNil))
def d_check_kind : DF := runF 2 false b_check_kind
def b_count_kind : DS := (sSeq (sExpr (dCall d_check_kind (aCons (dVar 0) aNil)))
    (sRet (dCall d_shuffles_of (aCons (dFn bSum (aCons (dVar 0) aNil)) (aCons (dVar 0) aNil)))))
def d_count_kind : DF := runF 1 false b_count_kind
def b_least_kind : DS := (sSeq (sExpr (dCall d_check_kind (aCons (dVar 0) aNil)))
    (sSeq (sPar [2, 3] (pCons (dDisp .lst aNil) (pCons (dC (.int 0)) pNil)))
    (sSeq (sFor (iAny (dVar 0)) (gN 1)
    (sSeq (sExpr (dMut 2 mExtend (aCons (dComp [4] (iFn range1 (aCons (dVar 1) aNil)) (gN 4) dYes (dOp gAdd (dVar 3) (dOp gMod (dOp gAdd (dVar 4) (dC (.int 1))) (dVar 1)))) aNil)))
    (sAug 3 addInt (dVar 1))))
    (sRet (dFn bTuple (aCons (dOwn 2) aNil))))))
def d_least_kind : DF := runF 5 false b_least_kind
def b_lowest : DS := (sSeq (sSet 2 (dCall d_divisor (aCons (dVar 0) (aCons (dVar 1) aNil))))
    (sRet (dDisp .tup (aCons (dOp gDiv (dVar 0) (dVar 2)) (aCons (dOp gDiv (dVar 1) (dVar 2)) aNil)))))
def d_lowest : DF := runF 3 false b_lowest
def b_mean_round : DS := (sSeq (sExpr (dCall d_check_cards (aCons (dVar 0) (aCons (dC (.int 0)) (aCons (dC (.int 24)) aNil)))))
    (sSeq (sSet 1 (dFn bSum (aCons (dComp [2] (iAny (dCall (d_kinds_of 60) (aCons (dVar 0) (aCons (dC (.int 1)) aNil)))) (gN 2) dYes (dOp gMul (dCall d_multiple (aCons (dVar 2) aNil)) (dCall d_shuffles_of (aCons (dVar 0) (aCons (dVar 2) aNil))))) aNil)))
    (sRet (dCall d_lowest (aCons (dVar 1) (aCons (dCall d_product_to (aCons (dVar 0) aNil)) aNil))))))
def d_mean_round : DF := runF 3 false b_mean_round
def b_mean_circles : DS := (sSeq (sExpr (dCall d_check_cards (aCons (dVar 0) (aCons (dC (.int 1)) (aCons (dC (.int 60)) aNil)))))
    (sSeq (sAsg (dDisp .tup (aCons (dC (.int 0)) (aCons (dC (.int 1)) aNil))) (gTp 2 (gsCons (gN 2) (gsCons (gN 3) gsNil))))
    (sSeq (sFor (iFn range2 (aCons (dC (.int 1)) (aCons (dOp gAdd (dVar 0) (dC (.int 1))) aNil))) (gN 1)
    (sPar [2, 3] (pCons (dOp gAdd (dOp gMul (dVar 2) (dVar 1)) (dVar 3)) (pCons (dOp gMul (dVar 3) (dVar 1)) pNil))))
    (sRet (dCall d_lowest (aCons (dVar 2) (aCons (dVar 3) aNil)))))))
def d_mean_circles : DF := runF 4 false b_mean_circles
def b_is_sight : DS := (sSeq (sIf (dOr (dNot (dTest (dUn (gIsi .tuple) (dVar 1)))) (dOr (dTest (dOp gNe (dFn bLen (aCons (dVar 1) aNil)) (dC (.int 3)))) (dNot (dTest (dCall d_is_from (aCons (dOp gIx (dVar 1) (dC (.int 0))) (aCons (dC (.int 0)) (aCons (dC (.int 1000000000000000000000000000000)) aNil))))))))
    (sRet (dC (.bl false)))
    sNil)
    (sRet (dAndV (dCall d_is_from (aCons (dOp gIx (dVar 1) (dC (.int 1))) (aCons (dC (.int 0)) (aCons (dOp gSubt (dVar 0) (dC (.int 1))) aNil)))) (dCall d_is_from (aCons (dOp gIx (dVar 1) (dC (.int 2))) (aCons (dC (.int 0)) (aCons (dOp gSubt (dVar 0) (dC (.int 1))) aNil)))))))
def d_is_sight : DF := runF 2 false b_is_sight
def b_check_seen : DS := (sSeq (sIf (dNot (dTest (dUn (gIsi2 .list .tuple) (dVar 1))))
    (sRaiseA 8 "index" (dC .non))
    sNil)
    (sFor (iFnV bEnum (aCons (dVar 1) aNil)) (gTp 2 (gsCons (gN 2) (gsCons (gN 3) gsNil)))
    (sIf (dNot (dTest (dCall d_is_sight (aCons (dVar 0) (aCons (dVar 3) aNil)))))
    (sRaiseA 8 "index" (dVar 2))
    sNil)))
def d_check_seen : DF := runF 4 false b_check_seen
def b_all_shuffles : DS := (sSeq (sSet 1 (dDisp .lst (aCons (dDisp .tup aNil) aNil)))
    (sSeq (sFor (iFn range1 (aCons (dVar 0) aNil)) (gN 2)
    (sSet 1 (dComp2 [3, 4] [4] (iAny (dVar 1)) (gN 3) dYes (iFn range1 (aCons (dVar 0) aNil)) (gN 4) (dTest (dOp gNotInV (dVar 4) (dVar 3))) (dDisp .tup (aStar (dVar 3) (aCons (dVar 4) aNil))))))
    (sRet (dVar 1))))
def d_all_shuffles : DF := runF 5 false b_all_shuffles
def b_does_fit : DS := (sRet (dFn bAll (aCons (dComp [2, 3, 4] (iAny (dVar 1)) (gTp 3 (gsCons (gN 2) (gsCons (gN 3) (gsCons (gN 4) gsNil)))) dYes (dOp gEq (dOp gIx (dCall d_done_by (aCons (dVar 0) (aCons (dVar 2) aNil))) (dVar 3)) (dVar 4))) aNil)))
def d_does_fit : DF := runF 5 false b_does_fit
def b_fitting : DS := (sSeq (sExpr (dCall d_check_cards (aCons (dVar 0) (aCons (dC (.int 0)) (aCons (dC (.int 6)) aNil)))))
    (sSeq (sExpr (dCall d_check_seen (aCons (dVar 0) (aCons (dVar 1) aNil))))
    (sSeq (sSet 2 (dComp [4] (iAny (dCall d_all_shuffles (aCons (dVar 0) aNil))) (gN 4) (dTest (dCall d_does_fit (aCons (dVar 4) (aCons (dVar 1) aNil)))) (dVar 4)))
    (sSeq (sIf (dTest (dOp gEq (dFn bLen (aCons (dVar 2) aNil)) (dC (.int 0))))
    (sRet (dDisp .tup (aCons (dC (.int 0)) (aCons (dC .non) (aCons (dC .non) aNil)))))
    sNil)
    (sSeq (sSet 3 (dComp [5] (iFn range1 (aCons (dVar 0) aNil)) (gN 5) dYes (dUn gSrtS (dComp [4] (iAny (dVar 2)) (gN 4) dYes (dOp gIx (dVar 4) (dVar 5))))))
    (sRet (dDisp .tup (aCons (dFn bLen (aCons (dVar 2) aNil)) (aCons (dOp gIx (dVar 2) (dC (.int 0))) (aCons (dFn bTuple (aCons (dComp [6] (iAny (dVar 3)) (gN 6) dYes (dIf (dTest (dOp gEq (dFn bLen (aCons (dVar 6) aNil)) (dC (.int 1)))) (dOp gIx (dVar 6) (dC (.int 0))) (dC .non))) aNil)) aNil))))))))))
def d_fitting : DF := runF 7 false b_fitting
end Lr

namespace Pu
open PySem Dn Lr L2
/-! what the operations give, by shapes -/
@[simp] theorem look0 {d : D} {e : Dn.Env} : look (some d :: e) 0 = some d := rfl
@[simp] theorem look0n {e : Dn.Env} : look (none :: e) 0 = none := rfl
@[simp] theorem lookS {x : Option D} {e : Dn.Env} {i : Nat} : look (x :: e) (i + 1) = look e i := rfl
@[simp] theorem rd_val {e : Dn.Env} {d : D} : rd e (.val d) = some d := rfl
@[simp] theorem rd_slot {e : Dn.Env} {i : Nat} : rd e (.slot i) = unfz (look e i) := rfl
@[simp] theorem unfz_lst {xs : List D} : unfz (some (.lst xs)) = some (.lst xs) := rfl
@[simp] theorem unfz_dK {xs : List (Key × D)} : unfz (some (.dK xs)) = some (.dK xs) := rfl
@[simp] theorem unfz_fz {d : D} : unfz (some (.fz d)) = some d := rfl
@[simp] theorem gAdd_i {a b : Int} : gAdd (.int a) (.int b) = some (.int (a + b)) := rfl
@[simp] theorem gSubt_i {a b : Int} : gSubt (.int a) (.int b) = some (.int (a - b)) := rfl
@[simp] theorem gLt_i {a b : Int} : gLt (.int a) (.int b) = some (.bl (decide (a < b))) := rfl
@[simp] theorem gLe_i {a b : Int} : gLe (.int a) (.int b) = some (.bl (decide (a ≤ b))) := rfl
@[simp] theorem gGt_i {a b : Int} : gGt (.int a) (.int b) = some (.bl (decide (b < a))) := rfl
@[simp] theorem gGe_i {a b : Int} : gGe (.int a) (.int b) = some (.bl (decide (b ≤ a))) := rfl
@[simp] theorem gNeg_i {a : Int} : gNeg (.int a) = some (.int (-a)) := rfl
theorem gMod_i {a b : Int} (h : 0 < b) : gMod (.int a) (.int b) = some (.int (a % b)) := by show (if decide (0 < b) then _ else _) = _; simp [h]
theorem divOk_of {b : Int} (h : 0 < b) (h2 : b < 2 ^ 3000) : divOk b = true := by
  unfold divOk
  rw [Bool.and_eq_true]
  have e : (2 : Int) ^ 3000 = ((2 ^ 3000 : Nat) : Int) := by norm_cast
  have : b.natAbs < 2 ^ 3000 := by omega
  have : (2 : Nat) ^ 3000 ≤ 2 ^ 4000 := Nat.pow_le_pow_right (by decide) (by decide)
  exact ⟨decide_eq_true h, decide_eq_true (by omega)⟩
theorem gDiv_i {a b : Int} (h : 0 < b) (h2 : b < 2 ^ 3000) : gDiv (.int a) (.int b) = some (.int (a / b)) := by show (if divOk b then _ else _) = _; rw [divOk_of h h2]; rfl
theorem mulOk_l {a b : Int} (h : a.natAbs < 2 ^ 60) : mulOk a b = true := by unfold mulOk; simp [h]
theorem mulOk_r {a b : Int} (h : b.natAbs < 2 ^ 60) : mulOk a b = true := by unfold mulOk; simp [h]
theorem gMul_l {a b : Int} (h : a.natAbs < 2 ^ 60) : gMul (.int a) (.int b) = some (.int (a * b)) := by show (if mulOk a b then _ else _) = _; rw [mulOk_l h]; rfl
theorem gMul_r {a b : Int} (h : b.natAbs < 2 ^ 60) : gMul (.int a) (.int b) = some (.int (a * b)) := by show (if mulOk a b then _ else _) = _; rw [mulOk_r h]; rfl
@[simp] theorem gEq_i {a b : Int} : gEq (.int a) (.int b) = some (.bl (decide (a = b))) := by
  have e : PyData.eqv (.int a) (.int b) = decide (a = b) := by
    show (a == b) = decide (a = b)
    by_cases h : a = b <;> simp [h]
  show (gEqB (.int a) (.int b)).map D.bl = _
  have : gEqB (.int a) (.int b) = some (PyData.eqv (.int a) (.int b)) := rfl
  rw [this, e]
  rfl
@[simp] theorem gNe_i {a b : Int} : gNe (.int a) (.int b) = some (.bl (decide (a ≠ b))) := by
  have e := gEq_i (a := a) (b := b)
  unfold gEq at e
  unfold gNe
  cases h : gEqB (.int a) (.int b) with
  | none => rw [h] at e; cases e
  | some x => rw [h] at e; cases e; by_cases z : a = b <;> simp [z]
@[simp] theorem bLen_l {xs : List D} : bLen [.lst xs] = some (.int xs.length) := rfl
@[simp] theorem bLen_t {xs : List D} : bLen [.tup xs] = some (.int xs.length) := rfl
@[simp] theorem bInt_i {a : Int} : bInt [.int a] = some (.int a) := rfl
theorem ixN_n {n i : Nat} (h : i < n) : ixN n (i : Int) = some i := by unfold ixN; rw [if_pos (by omega), if_pos (by omega)]; rfl
theorem atI_n {α : Type} {xs : List α} {i : Nat} : atI xs (i : Int) = xs[i]? := by
  unfold atI
  by_cases h : i < xs.length
  · rw [ixN_n h]; rfl
  · unfold ixN; rw [if_pos (by omega), if_neg (by omega), List.getElem?_eq_none (by omega)]; rfl
@[simp] theorem atI0 {α : Type} {x : α} {xs : List α} : atI (x :: xs) 0 = some x := atI_n (i := 0)
@[simp] theorem atI1 {α : Type} {x y : α} {xs : List α} : atI (x :: y :: xs) 1 = some y := atI_n (i := 1)
@[simp] theorem ixN1 {n : Nat} : ixN (n + 1 + 1) 1 = some 1 := ixN_n (i := 1) (by omega)
@[simp] theorem ixN0 {n : Nat} : ixN (n + 1) 0 = some 0 := ixN_n (i := 0) (by omega)
@[simp] theorem gIx_l {xs : List D} {i : Int} : gIx (.lst xs) (.int i) = atI xs i := rfl
@[simp] theorem gIx_t {xs : List D} {i : Int} : gIx (.tup xs) (.int i) = atI xs i := rfl
/-! the source of numbers -/
def srcD (s b : Int) (rest : List Int) : D := .lst (.int s :: .int b :: rest.map .int)
theorem below_b {s b n : Int} {rest : List Int} (h : 0 < b) (hn : 0 < n) (hn2 : n < 2 ^ 3000) : d_l_below [srcD s b rest, .int n] = .ok (.int (b % n)) (srcD s (b / n) rest) := by
  have h0 : ¬ b = 0 := by omega
  simp [d_l_below, b_l_below, runF, sSeq, sIf, sNil, dAnd, dTest, dOp, dOwn, dC, dFn, dVar, sSetIx, sSet, sRet, rds, aCons, aNil, srcD, outOf, gMod_i hn, gDiv_i hn hn2, h, h0]
theorem below_p {s n x : Int} {rest : List Int} (h : 0 < x) (hn : 0 < n) (hn2 : n < 2 ^ 3000) (hl : rest.length ≤ 100000) : d_l_below [srcD s 0 (x :: rest), .int n] = .ok (.int (x % n)) (srcD s (x / n) rest) := by
  have h0 : ¬ x = 0 := by omega
  have e1 : ixN (rest.length + 1 + 1 + 1) 2 = some 2 := ixN_n (i := 2) (by omega)
  have e2 : (2 : Int) < rest.length + 1 + 1 + 1 := by omega
  have e3 : rest.length + 1 + 1 + 1 ≤ 1000000 := by omega
  simp [d_l_below, b_l_below, runF, sSeq, sIf, sNil, dAnd, dTest, dOp, dOwn, dC, dFn, dVar, sSetIx, sSet, sRet, rds, aCons, aNil, srcD, outOf, gMod_i hn, gDiv_i hn hn2, h, h0, dMut, mPopAt, clean, e1, e2, e3]
theorem below_s {s n : Int} (hs : s.natAbs < 2 ^ 60) (hn : 0 < n) : d_l_below [srcD s 0 [], .int n] = .ok (.int ((s * 48271 + 11) % 2147483647 / 64 % n)) (srcD ((s * 48271 + 11) % 2147483647) 0 []) := by
  simp [d_l_below, b_l_below, runF, sSeq, sIf, sNil, dAnd, dTest, dOp, dOwn, dC, dFn, dVar, sSetIx, sSet, sRet, rds, aCons, aNil, srcD, outOf, gMul_l hs, gMod_i hn, gMod_i (show (0 : Int) < 2147483647 by decide), gDiv_i (show (0 : Int) < 64 by decide) (show (64 : Int) < 2 ^ 3000 from by decide +kernel)]
/-- the source as it stands between two draws -/
def Src (d : D) : Prop := ∃ (s b : Int) (rest : List Int), d = srcD s b rest ∧ 0 ≤ s ∧ s < 2147483647 ∧ 0 ≤ b ∧ (∀ x ∈ rest, 0 < x) ∧ rest.length ≤ 63
theorem below {d : D} {n : Int} (h : Src d) (hn : 0 < n) (hn2 : n < 2 ^ 3000) : ∃ (r : Int) (d' : D), Src d' ∧ 0 ≤ r ∧ r < n ∧ d_l_below [d, .int n] = .ok (.int r) d' := by
  obtain ⟨s, b, rest, rfl, h1, h2, h3, h4, h5⟩ := h
  by_cases hb : 0 < b
  · exact ⟨_, _, ⟨s, b / n, rest, rfl, h1, h2, Int.ediv_nonneg h3 (by omega), h4, h5⟩, Int.emod_nonneg _ (by omega), Int.emod_lt_of_pos _ hn, below_b hb hn hn2⟩
  · have : b = 0 := by omega
    subst this
    cases rest with
    | nil =>
      have q1 := Int.emod_nonneg (s * 48271 + 11) (show (2147483647 : Int) ≠ 0 by decide)
      have q2 := Int.emod_lt_of_pos (s * 48271 + 11) (show (0 : Int) < 2147483647 by decide)
      exact ⟨_, _, ⟨_, 0, [], rfl, q1, q2, by omega, by simp, by simp⟩, Int.emod_nonneg _ (by omega), Int.emod_lt_of_pos _ hn, below_s (by omega) hn⟩
    | cons x rest =>
      have hx := h4 x (by simp)
      exact ⟨_, _, ⟨s, x / n, rest, rfl, h1, h2, Int.ediv_nonneg (by omega) (by omega), fun y hy => h4 y (by simp [hy]), by simp at h5; omega⟩, Int.emod_nonneg _ (by omega), Int.emod_lt_of_pos _ hn, below_p hx hn hn2 (by simp at h5; omega)⟩
end Pu

namespace Pu
open PySem Dn Lr L2
/-! loops -/
theorem forL_inv {g : DG} {b : DS} (P : List D → Dn.Env → Prop) (hs : ∀ x r env, P (x :: r) env → ∃ e1 e2, g x env = some e1 ∧ b e1 = .nx e2 ∧ P r e2) : ∀ (xs : List D) (env : Dn.Env), P xs env → ∃ env', forL g b xs env = .nx env' ∧ P [] env'
  | [], env, h => ⟨env, rfl, h⟩
  | x :: r, env, h => by
    obtain ⟨e1, e2, h1, h2, h3⟩ := hs x r env h
    obtain ⟨e', h4, h5⟩ := forL_inv P hs r e2 h3
    refine ⟨e', ?_, h5⟩
    show (match g x env with | none => _ | some e1 => _) = _
    rw [h1]
    show (match b e1 with | .nx e2 => _ | .ct e2 => _ | .bk e2 => _ | .rt rv e2 => _ | .rn d e2 => _ | .ex x e2 => _ | .no => _) = _
    rw [h2]
    exact h4
theorem whl_inv {t : DT} {b : DS} (m : Dn.Env → Nat) (P : Dn.Env → Prop) (hs : ∀ env, P env → (∃ e1, t env = .ok false e1 ∧ P e1) ∨ ∃ e1 e2, t env = .ok true e1 ∧ b e1 = .nx e2 ∧ P e2 ∧ m e2 < m env) :
    ∀ (n : Nat) (env : Dn.Env), P env → m env < n → ∃ env' e0, whl t b n env = .nx env' ∧ P e0 ∧ t e0 = .ok false env'
  | 0, env, _, h => absurd h (Nat.not_lt_zero _)
  | n + 1, env, h, hm => by
    rcases hs env h with ⟨e1, h1, h2⟩ | ⟨e1, e2, h1, h2, h3, h4⟩
    · refine ⟨e1, env, ?_, h, h1⟩
      show (match t env with | .ok true e1 => _ | .ok false e1 => _ | .ex q e1 => _ | .no => _) = _
      rw [h1]
    · obtain ⟨e', e0, h5, h6⟩ := whl_inv m P hs n e2 h3 (by omega)
      refine ⟨e', e0, ?_, h6⟩
      show (match t env with | .ok true e1 => _ | .ok false e1 => _ | .ex q e1 => _ | .no => _) = _
      rw [h1]
      show (match b e1 with | .nx e2 => _ | .ct e2 => _ | .bk e2 => _ | .rt rv e2 => _ | .rn d e2 => _ | .ex x e2 => _ | .no => _) = _
      rw [h2]
      exact h5
/-! comprehensions of one name -/
theorem wipe1 {env : Dn.Env} {i : Nat} : wipeE env [i] = env.set i none := rfl
theorem res1 {e0 e1 : Dn.Env} {i : Nat} {x : Option D} (h : e0[i]? = some x) : resE e0 e1 [i] = e1.set i x := by
  show (match e0[i]? with | some x => _ | none => _) = _
  rw [h]
  rfl
theorem compL_pure {i : Nat} {t : DT} {e : DE} {env : Dn.Env} (ft : D → Bool) (fe : D → D) : ∀ (xs : List D) (acc : List D) (env1 : Dn.Env), (∀ x ∈ xs, t (env.set i (some x)) = .ok (ft x) (env.set i (some x)) ∧ (ft x = true → e (env.set i (some x)) = .ok (.val (fe x)) (env.set i (some x)))) →
    (∀ y, env1.set i y = env.set i y) → acc.length + xs.length ≤ 1000000 → ∃ env', compL [i] (gN i) t e xs acc env1 = .ok (acc ++ (xs.filter ft).map fe) env' ∧ ∀ y, env'.set i y = env.set i y
  | [], acc, env1, _, h1, _ => ⟨env1, by simp [compL], h1⟩
  | x :: xs, acc, env1, h, h1, hl => by
    obtain ⟨ht, he⟩ := h x (by simp)
    have e1 : (wipeE env1 [i]).set i (some x) = env.set i (some x) := by rw [wipe1, h1, List.set_set]
    have nx : ∀ y, (env.set i (some x)).set i y = env.set i y := fun y => by rw [List.set_set]
    have hl' : acc.length < 1000000 := by simp at hl; omega
    cases hf : ft x with
    | true =>
      obtain ⟨env', q1, q2⟩ := compL_pure ft fe xs (acc ++ [fe x]) (env.set i (some x)) (fun y hy => h y (by simp [hy])) nx (by simp at hl ⊢; omega)
      refine ⟨env', ?_, q2⟩
      unfold compL
      rw [show gN i x (wipeE env1 [i]) = some ((wipeE env1 [i]).set i (some x)) from rfl, e1]
      dsimp only
      rw [ht, hf]
      dsimp only
      rw [he hf]
      dsimp only
      rw [decide_eq_true hl']
      dsimp only
      rw [q1]
      simp [hf]
    | false =>
      obtain ⟨env', q1, q2⟩ := compL_pure ft fe xs acc (env.set i (some x)) (fun y hy => h y (by simp [hy])) nx (by simp at hl ⊢; omega)
      refine ⟨env', ?_, q2⟩
      unfold compL
      rw [show gN i x (wipeE env1 [i]) = some ((wipeE env1 [i]).set i (some x)) from rfl, e1]
      dsimp only
      rw [ht, hf]
      dsimp only
      rw [q1]
      simp [hf]
theorem comp_pure {i : Nat} {it : DI} {t : DT} {e : DE} {env : Dn.Env} (xs : List D) (ft : D → Bool) (fe : D → D) (hit : it env = .ok xs env) (hi : i < env.length) (hl : xs.length ≤ 1000000)
    (h : ∀ x ∈ xs, t (env.set i (some x)) = .ok (ft x) (env.set i (some x)) ∧ (ft x = true → e (env.set i (some x)) = .ok (.val (fe x)) (env.set i (some x)))) :
    dComp [i] it (gN i) t e env = .ok (.val (.lst ((xs.filter ft).map fe))) env := by
  obtain ⟨env', q1, q2⟩ := compL_pure (env := env) ft fe xs [] env h (fun _ => rfl) (by simpa using hl)
  unfold dComp
  rw [hit]
  dsimp only
  rw [q1]
  dsimp only
  rw [res1 (List.getElem?_eq_getElem hi), q2]
  simp
/-! ints from a number on -/
theorem prog_map (lo : Int) : ∀ n : Nat, prog lo 1 n = (List.range n).map fun k : Nat => D.int (lo + (k : Int))
  | 0 => rfl
  | n + 1 => by
    show D.int lo :: prog (lo + 1) 1 n = _
    rw [prog_map (lo + 1) n, List.range_succ_eq_map]
    simp [Function.comp_def]
    intro a _
    omega
/-! random -/
@[simp] theorem unfz_some_int {a : Int} : unfz (some (.int a)) = some (.int a) := rfl
theorem abs_i {a : Int} : ∃ b : Int, 0 ≤ b ∧ bAbs [.int a] = some (.int b) := by
  unfold bAbs
  by_cases h : a < 0
  · exact ⟨-a, by omega, by simp [h]⟩
  · exact ⟨a, by omega, by simp [h]⟩
theorem random_ok {xs : List Int} {salt : Int} (hl : xs.length ≤ 63) (h0 : 0 ≤ salt) (h1 : salt < 2147483647) : ∃ d, Src d ∧ d_l_random [.fls (xs.map .int), .int salt] = .rn d .non := by
  obtain ⟨env', q1, _, k, v, q2, k0, k1⟩ := forL_inv (g := gN 3) (b := sSet 2 (dOp gMod (dFn bInt (aCons (dOp gAdd (dOp gMul (dVar 2) (dC (.int 31))) (dFn bAbs (aCons (dVar 3) aNil))) aNil)) (dC (.int 2147483647))))
    (fun rem env => (∃ ys : List Int, rem = ys.map .int) ∧ ∃ (k : Int) (v : Option D), env = [some (.fls (xs.map .int)), some (.int salt), some (.int k), v] ∧ 0 ≤ k ∧ k < 2147483647) (fun x r env ⟨⟨ys, hy⟩, k, v, he, a, b⟩ => by
      cases ys with
      | nil => cases hy
      | cons y ys =>
        cases hy
        subst he
        obtain ⟨z, z0, hz⟩ := abs_i (a := y)
        refine ⟨_, _, rfl, ?_, ⟨ys, rfl⟩, (k * 31 + z) % 2147483647, some (.int y), rfl, Int.emod_nonneg _ (by decide), Int.emod_lt_of_pos _ (by decide)⟩
        simp [sSet, dOp, dFn, aCons, aNil, dVar, dC, rds, hz, gMul_l (show k.natAbs < 2 ^ 60 by omega), gMod_i (show (0 : Int) < 2147483647 by decide)])
    (xs.map .int) [some (.fls (xs.map .int)), some (.int salt), some (.int salt), none] ⟨⟨xs, rfl⟩, salt, none, rfl, h0, h1⟩
  subst q2
  have hc := comp_pure (i := 3) (it := iAny (dVar 0)) (t := dTest (dOp gGe (dVar 3) (dOp gPow (dC (.int 10)) (dC (.int 18))))) (e := dVar 3) (env := [some (.fls (xs.map .int)), some (.int salt), some (.int k), v]) (xs.map .int) (fun d => match d with | .int x => decide (10 ^ 18 ≤ x) | _ => false) id rfl (by simp) (by simp; omega) (fun x hx => by
    obtain ⟨y, _, rfl⟩ := List.mem_map.mp hx
    refine ⟨?_, fun _ => rfl⟩
    simp [dTest, dOp, dVar, dC, gPow])
  refine ⟨srcD k 0 (xs.filter fun x => decide (10 ^ 18 ≤ x)), ⟨k, 0, _, rfl, k0, k1, by omega, fun x hx => ?_, Nat.le_trans (List.length_filter_le _ _) hl⟩, ?_⟩
  · have := of_decide_eq_true (List.mem_filter.mp hx).2
    omega
  · have e1 : ((xs.map D.int).filter (fun d => match d with | .int x => decide (10 ^ 18 ≤ x) | _ => false)).map id = (xs.filter fun x => decide (10 ^ 18 ≤ x)).map D.int := by
      rw [List.map_id, List.filter_map]
      rfl
    rw [e1] at hc
    have small : (2 : Nat) + (xs.filter fun x => decide (10 ^ 18 ≤ x)).length ≤ 1000000 := by have := List.length_filter_le (fun x => decide ((10 : Int) ^ 18 ≤ x)) xs; omega
    have f : sFor (iAny (dVar 0)) (gN 3) (sSet 2 (dOp gMod (dFn bInt (aCons (dOp gAdd (dOp gMul (dVar 2) (dC (.int 31))) (dFn bAbs (aCons (dVar 3) aNil))) aNil)) (dC (.int 2147483647)))) [some (.fls (xs.map .int)), some (.int salt), some (.int salt), none] = .nx [some (.fls (xs.map .int)), some (.int salt), some (.int k), v] := q1
    show runF 4 false b_l_random _ = _
    unfold b_l_random
    generalize (dComp [3] (iAny (dVar 0)) (gN 3) (dTest (dOp gGe (dVar 3) (dOp gPow (dC (.int 10)) (dC (.int 18))))) (dVar 3)) = C at hc ⊢
    generalize sFor (iAny (dVar 0)) (gN 3) (sSet 2 (dOp gMod (dFn bInt (aCons (dOp gAdd (dOp gMul (dVar 2) (dC (.int 31))) (dFn bAbs (aCons (dVar 3) aNil))) aNil)) (dC (.int 2147483647)))) = F at f ⊢
    have small2 : 2 + (xs.filter fun x => decide (1000000000000000000 ≤ x)).length ≤ 1000000 := by simpa using small
    simp [runF, sSeq, sSet, dVar, f, sRetN, dOp, dDisp, aCons, aNil, dC, clean, hc, gCat, srcD, outOf, small2, Nat.add_comm]
end Pu

namespace Pu
open PySem Dn Lr L2
/-- a shuffle: each place once -/
structure Sh (p : List Nat) : Prop where
  nd : p.Nodup
  lt : ∀ x ∈ p, x < p.length
def tn (p : List Nat) : List D := p.map fun x : Nat => D.int (x : Int)
@[simp] theorem tn_len {p : List Nat} : (tn p).length = p.length := by simp [tn]
theorem tn_get {p : List Nat} {i : Nat} : (tn p)[i]? = p[i]?.map fun x : Nat => D.int (x : Int) := by simp [tn]
/-- .. as it is drawn -/
theorem src_lst {d : D} (h : Src d) : ∃ xs, d = .lst xs := by obtain ⟨_, _, _, rfl, _⟩ := h; exact ⟨_, rfl⟩
theorem pick_ok {d : D} {items : List D} (h : Src d) (hi : 0 < items.length) (hi2 : items.length < 2 ^ 60) : ∃ (r : Nat) (x : D) (d' : D), items[r]? = some x ∧ Src d' ∧ d_l_pick [d, .lst items] = .ok x d' := by
  have b : (items.length : Int) < 2 ^ 3000 := by
    have : (2 : Int) ^ 60 ≤ 2 ^ 3000 := by decide +kernel
    omega
  obtain ⟨r, d', h1, h2, h3, h4⟩ := below h (by omega : (0 : Int) < items.length) b
  obtain ⟨n, rfl⟩ : ∃ n : Nat, r = n := ⟨r.toNat, by omega⟩
  have hn : n < items.length := by omega
  obtain ⟨xs, rfl⟩ := src_lst h
  obtain ⟨ys, rfl⟩ := src_lst h1
  refine ⟨n, items[n], .lst ys, List.getElem?_eq_getElem hn, h1, ?_⟩
  have e : atI items (n : Int) = some items[n] := by rw [atI_n, List.getElem?_eq_getElem hn]
  simp [d_l_pick, b_l_pick, runF, sRet, dOp, dVar, dCallIO, aCons, aNil, dOwn, dFn, rds, clean, h4, e, outOf]
theorem perm_filter {l : List Nat} (h : l.Nodup) {p : Nat} (hp : p ∈ l) : (p :: l.filter fun x => decide (x ≠ p)).Perm l := by
  have e : l.filter (fun x => decide (x ≠ p)) = l.erase p := by
    rw [h.erase_eq_filter]
    congr 1
    funext x
    by_cases z : x = p <;> simp [z]
  rw [e]
  exact (List.perm_cons_erase hp).symm
theorem sh_of_perm {p : List Nat} {n : Nat} (h : p.Perm (List.range n)) : Sh p ∧ p.length = n := by
  have l : p.length = n := by rw [h.length_eq, List.length_range]
  refine ⟨⟨h.nodup_iff.mpr List.nodup_range, fun x hx => ?_⟩, l⟩
  rw [l]
  exact List.mem_range.mp (h.mem_iff.mp hx)
theorem nodup_map_on {α β : Type} {f : α → β} {l : List α} (h : l.Nodup) (hf : ∀ x ∈ l, ∀ y ∈ l, f x = f y → x = y) : (l.map f).Nodup :=
  List.pairwise_map.mpr (h.imp_of_mem fun hx hy n e => n (hf _ hx _ hy e))
theorem sh_rot (n s : Nat) (hn : 0 < n) : Sh ((List.range n).map fun k => (k + s) % n) := by
  refine ⟨nodup_map_on List.nodup_range (fun x hx y hy e => ?_), fun x hx => ?_⟩
  · have hx := List.mem_range.mp hx
    have hy := List.mem_range.mp hy
    have q : ∀ x y : Nat, x < n → y < n → x ≤ y → (x + s) % n = (y + s) % n → x = y := fun x y hx hy hxy e => by
      have : (y - x) % n = 0 := by
        have e2 : (y + s) = (x + s) + (y - x) := by omega
        rw [e2] at e
        have := Nat.sub_mod_eq_zero_of_mod_eq (m := (x + s) + (y - x)) (n := x + s) (k := n) e.symm
        rwa [Nat.add_sub_cancel_left] at this
      have h2 : y - x < n := by omega
      rw [Nat.mod_eq_of_lt h2] at this
      omega
    rcases Nat.le_total x y with z | z
    · exact q x y hx hy z e
    · exact (q y x hy hx z e.symm).symm
  · obtain ⟨k, _, rfl⟩ := List.mem_map.mp hx
    simp
    exact Nat.mod_lt _ hn
/-! _law_shuffle -/
theorem tn_range (n : Nat) : prog 0 1 n = tn (List.range n) := by rw [prog_map]; simp [tn]
theorem int_ne {a b : Nat} : decide ((a : Int) = (b : Int)) = decide (a = b) := by
  by_cases h : a = b
  · simp [h]
  · simp [h]; omega
abbrev shB : DS := sSeq (sSet 5 (dOp gIx (dVar 3) (dCallIO d_l_below (aCons (dOwn 0) (aCons (dFn bLen (aCons (dVar 3) aNil)) aNil)))))
    (sSeq (sSet 3 (dComp [7] (iAny (dVar 3)) (gN 7) (dTest (dOp gNe (dVar 7) (dVar 5))) (dVar 7))) (sExpr (dMut 4 mAppend (aCons (dVar 5) aNil))))
theorem lt3000 {m : Nat} (hm : m ≤ 1000) : (m : Int) < 2 ^ 3000 := by
  have : (1000 : Int) < 2 ^ 3000 := by decide +kernel
  omega
theorem comp_ne {xs : List D} {n : Int} {x y : Option D} {lf : List Nat} {v : Option D} {k : Nat} {z : D} (hl : lf.length ≤ 1000) :
    dComp [7] (iAny (dVar 3)) (gN 7) (dTest (dOp gNe (dVar 7) (dVar 5))) (dVar 7) [some (.lst xs), some (.int n), x, some (.lst (tn lf)), y, some (.int (k : Nat)), none, v] = .ok (.val (.lst (tn (lf.filter fun z => decide (z ≠ k))))) [some (.lst xs), some (.int n), x, some (.lst (tn lf)), y, some (.int (k : Nat)), none, v] := by
  have hc := comp_pure (i := 7) (it := iAny (dVar 3)) (t := dTest (dOp gNe (dVar 7) (dVar 5))) (e := dVar 7) (env := [some (.lst xs), some (.int n), x, some (.lst (tn lf)), y, some (.int (k : Nat)), none, v]) (tn lf) (fun y => match y with | .int z => decide (z ≠ (k : Nat)) | _ => false) id rfl (by simp) (by simp; omega) (fun y hy => by
    obtain ⟨z, _, rfl⟩ := List.mem_map.mp hy
    exact ⟨by simp [dTest, dOp, dVar], fun _ => rfl⟩)
  have ef : ((tn lf).filter (fun y => match y with | .int z => decide (z ≠ (k : Nat)) | _ => false)).map id = tn (lf.filter fun z => decide (z ≠ k)) := by
    rw [List.map_id]
    unfold tn
    rw [List.filter_map]
    congr 1
    apply List.filter_congr
    intro z _
    simp
    omega
  rw [ef] at hc
  exact hc
theorem mAppend_ok {xs : List D} {y : D} (h : xs.length < 1000000) : mAppend xs [y] = some (.non, .lst (xs ++ [y])) := by
  show (if xs.length < 1000000 then _ else _) = _
  rw [if_pos h]
theorem sh_step {n : Nat} {x : D} {fd lf : List Nat} {d1 : D} {v2 v5 v7 : Option D} (hn : n ≤ 1000) (h1 : Src d1) (h2 : (fd ++ lf).Perm (List.range n)) (h3 : 0 < lf.length) : ∃ (k : Nat) (d2 : D), k ∈ lf ∧ Src d2 ∧
    shB [some d1, some (.int n), some x, some (.lst (tn lf)), some (.lst (tn fd)), v5, none, v7] = .nx [some d2, some (.int n), some x, some (.lst (tn (lf.filter fun z => decide (z ≠ k)))), some (.lst (tn (fd ++ [k]))), some (.int (k : Nat)), none, v7] := by
  have ll : fd.length + lf.length = n := by have := h2.length_eq; simp at this; omega
  obtain ⟨r0, d2, s1, s2, s3, s4⟩ := below h1 (show (0 : Int) < (lf.length : Nat) by omega) (lt3000 (by omega))
  obtain ⟨k, rfl⟩ : ∃ k : Nat, r0 = k := ⟨r0.toNat, by omega⟩
  have hk : k < lf.length := by omega
  obtain ⟨xs1, rfl⟩ := src_lst h1
  obtain ⟨xs2, rfl⟩ := src_lst s1
  have ea : atI (tn lf) (k : Int) = some (.int (lf[k] : Nat)) := by rw [atI_n, tn_get, List.getElem?_eq_getElem hk]; rfl
  refine ⟨lf[k], .lst xs2, List.getElem_mem hk, s1, ?_⟩
  have hc := comp_ne (xs := xs2) (n := n) (x := some x) (y := some (.lst (tn fd))) (lf := lf) (v := v7) (k := lf[k]) (z := x) (by omega)
  have ha := mAppend_ok (xs := tn fd) (y := .int (lf[k] : Nat)) (by rw [tn_len]; omega)
  have et : tn fd ++ [.int (lf[k] : Nat)] = tn (fd ++ [lf[k]]) := by simp [tn]
  rw [et] at ha
  unfold shB
  generalize (dComp [7] (iAny (dVar 3)) (gN 7) (dTest (dOp gNe (dVar 7) (dVar 5))) (dVar 7)) = C at hc ⊢
  simp [sSeq, sSet, dOp, dVar, dCallIO, aCons, aNil, dOwn, dFn, rds, clean, s4, ea, hc, sExpr, dMut, ha]
theorem shuffle_loop {d : D} {n : Nat} (h : Src d) (hn : n ≤ 1000) : ∃ (p : List Nat) (d1 : D) (v2 v5 v7 : Option D), Sh p ∧ p.length = n ∧ Src d1 ∧
    forL (gN 2) shB (prog 0 1 n) [some d, some (.int n), none, some (.lst (tn (List.range n))), some (.lst (tn [])), none, none, none] = .nx [some d1, some (.int n), v2, some (.lst (tn [])), some (.lst (tn p)), v5, none, v7] := by
  obtain ⟨env', q1, fd, lf, d1, v5, v7, v2, q2, q3, q4, q5⟩ := forL_inv (g := gN 2) (b := shB)
    (fun rem env => ∃ (fd lf : List Nat) (d1 : D) (v5 v7 v2 : Option D), env = [some d1, some (.int n), v2, some (.lst (tn lf)), some (.lst (tn fd)), v5, none, v7] ∧ Src d1 ∧ (fd ++ lf).Perm (List.range n) ∧ lf.length = rem.length) (fun x r env ⟨fd, lf, d1, v5, v7, v2, he, h1, h2, h3⟩ => by
      obtain ⟨k, d2, m1, m2, m3⟩ := sh_step (x := x) (v2 := v2) (v5 := v5) (v7 := v7) hn h1 h2 (by simp at h3; omega)
      have nd : (fd ++ lf).Nodup := h2.nodup_iff.mpr List.nodup_range
      have pf := perm_filter (List.nodup_append.mp nd).2.1 m1
      refine ⟨_, _, by rw [he]; rfl, m3, fd ++ [k], _, d2, _, _, _, rfl, m2, ?_, ?_⟩
      · rw [List.append_assoc]
        exact (List.Perm.append_left fd pf).trans h2
      · have := pf.length_eq
        simp at this h3 ⊢
        omega)
    (prog 0 1 n) [some d, some (.int n), none, some (.lst (tn (List.range n))), some (.lst (tn [])), none, none, none] ⟨[], List.range n, d, none, none, none, rfl, h, by simp, by rw [prog_len]; simp⟩
  have lf0 : lf = [] := by simpa using q5
  subst lf0
  rw [List.append_nil] at q4
  obtain ⟨shf, lenf⟩ := sh_of_perm q4
  exact ⟨fd, d1, v2, v5, v7, shf, lenf, q3, by rw [q1, q2]⟩
theorem range1_ok {n : Nat} (h : n ≤ 1000000) : range1 [.int (n : Int)] = some (prog 0 1 n) := by
  have b : big (n : Int) = true := by unfold big; simp; omega
  simp only [range1, b, if_true, Int.toNat_natCast]
theorem rot_comp {d1 : D} {n s : Nat} {v2 y3 y4 v5 v7 : Option D} (hn : 0 < n) (hn2 : n ≤ 1000) : dComp [2] (iFn range1 (aCons (dVar 1) aNil)) (gN 2) dYes (dOp gMod (dOp gAdd (dVar 2) (dVar 6)) (dVar 1)) [some d1, some (.int n), v2, y3, y4, v5, some (.int s), v7] =
    .ok (.val (.lst (tn ((List.range n).map fun k => (k + s) % n)))) [some d1, some (.int n), v2, y3, y4, v5, some (.int s), v7] := by
  have hi : iFn range1 (aCons (dVar 1) aNil) [some d1, some (.int n), v2, y3, y4, v5, some (.int s), v7] = .ok (tn (List.range n)) [some d1, some (.int n), v2, y3, y4, v5, some (.int s), v7] := by
    rw [← tn_range]
    simp [iFn, aCons, aNil, dVar, rds, range1_ok (show n ≤ 1000000 by omega)]
  have hc := comp_pure (i := 2) (it := iFn range1 (aCons (dVar 1) aNil)) (t := dYes) (e := dOp gMod (dOp gAdd (dVar 2) (dVar 6)) (dVar 1)) (env := [some d1, some (.int n), v2, y3, y4, v5, some (.int s), v7]) (tn (List.range n)) (fun _ => true) (fun y => match y with | .int z => .int ((z + s) % n) | _ => .non) hi (by simp) (by simp; omega) (fun y hy => by
    obtain ⟨z, _, rfl⟩ := List.mem_map.mp hy
    exact ⟨rfl, fun _ => by simp [dOp, dVar, gMod_i (show (0 : Int) < n by omega)]⟩)
  have ef : (((tn (List.range n)).filter fun _ => true).map fun y => match y with | .int z => .int ((z + s) % n) | _ => .non) = tn ((List.range n).map fun k => (k + s) % n) := by
    rw [show (tn (List.range n)).filter (fun _ => true) = tn (List.range n) from by simp]
    unfold tn
    rw [List.map_map, List.map_map]
    apply List.map_congr_left
    intro k _
    simp
  rw [ef] at hc
  exact hc
theorem bListR_ok {n : Nat} (h : n ≤ 1000) : bListR (.int (n : Int)) = some (.lst (tn (List.range n))) := by
  have b : okRg 0 (n : Int) = true := by
    unfold okRg big
    simp
    omega
  simp only [bListR, b, if_true, ← tn_range, Int.sub_zero, Int.toNat_natCast]
@[simp] theorem bTuple_l {xs : List D} : bTuple [.lst xs] = some (.tup xs) := rfl
theorem shuffle_ok {d : D} {n : Nat} (h : Src d) (hn : n ≤ 1000) : ∃ (p : List Nat) (d' : D), Sh p ∧ p.length = n ∧ Src d' ∧ d_l_shuffle [d, .int n] = .ok (.tup (tn p)) d' := by
  obtain ⟨p, d1, v2, v5, v7, h1, h2, h3, h4⟩ := shuffle_loop h hn
  have f : sFor (iFn range1 (aCons (dVar 1) aNil)) (gN 2) shB [some d, some (.int n), none, some (.lst (tn (List.range n))), some (.lst (tn [])), none, none, none] = .nx [some d1, some (.int n), v2, some (.lst (tn [])), some (.lst (tn p)), v5, none, v7] := by
    have e : iFn range1 (aCons (dVar 1) aNil) [some d, some (.int n), none, some (.lst (tn (List.range n))), some (.lst (tn [])), none, none, none] = .ok (prog 0 1 n) [some d, some (.int n), none, some (.lst (tn (List.range n))), some (.lst (tn [])), none, none, none] := by
      simp [iFn, aCons, aNil, dVar, rds, range1_ok (show n ≤ 1000000 by omega)]
    unfold sFor
    rw [e]
    exact h4
  obtain ⟨r4, d4, t1, t2, t3, t4⟩ := below h3 (show (0 : Int) < 4 by decide) (by decide +kernel)
  obtain ⟨xs1, rfl⟩ := src_lst h3
  obtain ⟨xs4, rfl⟩ := src_lst t1
  have bl := bListR_ok hn
  have tn0 : tn [] = [] := rfl
  rw [tn0] at f
  by_cases c : r4 = 0 ∧ 0 < n
  · obtain ⟨c1, c2⟩ := c
    subst c1
    obtain ⟨r5, d5, u1, u2, u3, u4⟩ := below t1 (show (0 : Int) < n by omega) (lt3000 hn)
    obtain ⟨k, rfl⟩ : ∃ k : Nat, r5 = k := ⟨r5.toNat, by omega⟩
    obtain ⟨xs5, rfl⟩ := src_lst u1
    refine ⟨(List.range n).map fun j => (j + k) % n, .lst xs5, sh_rot n k c2, by simp, u1, ?_⟩
    have hc := rot_comp (d1 := .lst xs5) (s := k) (v2 := v2) (y3 := some (.lst [])) (y4 := some (.lst (tn p))) (v5 := v5) (v7 := v7) c2 hn
    have c3 : (0 : Int) < n := by omega
    show runF 8 true b_l_shuffle _ = _
    unfold b_l_shuffle
    generalize sFor (iFn range1 (aCons (dVar 1) aNil)) (gN 2) _ = F at f ⊢
    generalize (dComp [2] (iFn range1 (aCons (dVar 1) aNil)) (gN 2) dYes (dOp gMod (dOp gAdd (dVar 2) (dVar 6)) (dVar 1))) = C at hc ⊢
    simp [runF, sSeq, sPar, pCons, pNil, dUn, dVar, bl, dDisp, aNil, aCons, clean, setsE, f, sIf, dAnd, dTest, dOp, dCallIO, dOwn, dC, t4, c2, sSet, u4, sRet, dFn, hc, rds, outOf]
  · refine ⟨p, .lst xs4, h1, h2, t1, ?_⟩
    show runF 8 true b_l_shuffle _ = _
    unfold b_l_shuffle
    generalize sFor (iFn range1 (aCons (dVar 1) aNil)) (gN 2) _ = F at f ⊢
    by_cases c1 : r4 = 0
    · subst c1
      have c2 : ¬ (0 : Int) < n := fun z => c ⟨rfl, by omega⟩
      have c2' : ¬ 0 < n := fun z => c ⟨rfl, z⟩
      simp [runF, sSeq, sPar, pCons, pNil, dUn, dVar, bl, dDisp, aNil, aCons, clean, setsE, f, sIf, sNil, dAnd, dTest, dOp, dCallIO, dOwn, dC, t4, c2', sRet, dFn, rds, outOf]
    · simp [runF, sSeq, sPar, pCons, pNil, dUn, dVar, bl, dDisp, aNil, aCons, clean, setsE, f, sIf, sNil, dAnd, dTest, dOp, dCallIO, dOwn, dC, t4, c1, sRet, dFn, rds, outOf]
end Pu

/-! plain laws of shuffles: no program in sight -/
namespace Ci
open Pu
def ev (p : List Nat) (x : Nat) : Nat := p.getD x 0
def it (p : List Nat) : Nat → Nat → Nat
  | 0, x => x
  | k + 1, x => ev p (it p k x)
section
variable {p : List Nat}
theorem ev_get {x : Nat} (h : x < p.length) : p[x]? = some (ev p x) := by
  unfold ev
  rw [List.getD_eq_getElem?_getD, List.getElem?_eq_getElem h]
  rfl
theorem ev_lt (s : Sh p) {x : Nat} (h : x < p.length) : ev p x < p.length := by
  have := ev_get h
  exact s.lt _ (List.mem_of_getElem? this)
theorem ev_inj (s : Sh p) {x y : Nat} (hx : x < p.length) (hy : y < p.length) (e : ev p x = ev p y) : x = y := by
  have a := ev_get hx
  have b := ev_get hy
  rw [e] at a
  rw [List.getElem?_eq_getElem hx] at a
  rw [List.getElem?_eq_getElem hy] at b
  have : p[x] = p[y] := (Option.some.inj a).trans (Option.some.inj b).symm
  exact (List.getElem_inj s.nd).mp this
theorem it_add (a : Nat) : ∀ (b x : Nat), it p (a + b) x = it p b (it p a x)
  | 0, x => rfl
  | b + 1, x => by show ev p (it p (a + b) x) = ev p (it p b (it p a x)); rw [it_add a b x]
theorem it_lt (s : Sh p) {x : Nat} (h : x < p.length) : ∀ k, it p k x < p.length
  | 0 => h
  | k + 1 => ev_lt s (it_lt s h k)
theorem it_inj (s : Sh p) : ∀ {k x y : Nat}, x < p.length → y < p.length → it p k x = it p k y → x = y
  | 0, _, _, _, _, e => e
  | k + 1, x, y, hx, hy, e => it_inj s hx hy (ev_inj s (it_lt s hx k) (it_lt s hy k) e)
/-- it comes back -/
theorem back (s : Sh p) {b : Nat} (h : b < p.length) : ∃ k, k < p.length ∧ it p (k + 1) b = b := by
  by_cases z : ((List.range (p.length + 1)).map fun k => it p k b).Nodup
  · have := z.length_le_of_subset (l₂ := List.range p.length) (fun x hx => by
      obtain ⟨k, _, rfl⟩ := List.mem_map.mp hx
      exact List.mem_range.mpr (it_lt s h k))
    simp at this
    omega
  · have : ∃ i j, i < j ∧ j < p.length + 1 ∧ it p i b = it p j b := by
      refine Classical.byContradiction fun n => z (nodup_map_on List.nodup_range fun x hx y hy e => ?_)
      have hx := List.mem_range.mp hx
      have hy := List.mem_range.mp hy
      refine Classical.byContradiction fun ne => n ?_
      rcases Nat.lt_or_gt_of_ne ne with q | q
      · exact ⟨x, y, q, hy, e⟩
      · exact ⟨y, x, q, hx, e.symm⟩
    obtain ⟨i, j, h1, h2, h3⟩ := this
    refine ⟨j - i - 1, by omega, ?_⟩
    have e : j = (j - i - 1 + 1) + i := by omega
    rw [e, it_add] at h3
    exact (it_inj s h (it_lt s h _) h3).symm
def per (p : List Nat) (b : Nat) : Nat := ((List.range p.length).find? fun k => it p (k + 1) b == b).getD 0 + 1
theorem per_spec (s : Sh p) {b : Nat} (h : b < p.length) : per p b ≤ p.length ∧ it p (per p b) b = b ∧ ∀ k, 0 < k → k < per p b → it p k b ≠ b := by
  obtain ⟨k, h1, h2⟩ := back s h
  cases e : (List.range p.length).find? fun k => it p (k + 1) b == b with
  | none =>
    have := List.find?_eq_none.mp e k (List.mem_range.mpr h1)
    simp [h2] at this
  | some i =>
    obtain ⟨a1, a2, a3⟩ := List.find?_range_eq_some.mp e
    have hp : per p b = i + 1 := by unfold per; rw [e]; rfl
    rw [hp]
    refine ⟨by have := List.mem_range.mp a2; omega, by simpa using a1, fun k k0 k1 => ?_⟩
    have := a3 (k - 1) (by omega)
    rw [show k - 1 + 1 = k by omega] at this
    simpa using this
theorem per_pos : 0 < per p b := by unfold per; omega
def orb (p : List Nat) (b : Nat) : List Nat := (List.range (per p b)).map fun k => it p k b
theorem it_ne (s : Sh p) {b : Nat} (h : b < p.length) {i j : Nat} (hij : i < j) (hj : j < per p b) : it p i b ≠ it p j b := fun e => by
  obtain ⟨_, _, h3⟩ := per_spec s h
  have e2 : j = (j - i) + i := by omega
  rw [e2, it_add] at e
  exact h3 (j - i) (by omega) (by omega) (it_inj s h (it_lt s h _) e).symm
theorem orb_nodup (s : Sh p) {b : Nat} (h : b < p.length) : (orb p b).Nodup := nodup_map_on List.nodup_range fun x hx y hy e => by
  have hx := List.mem_range.mp hx
  have hy := List.mem_range.mp hy
  rcases Nat.lt_trichotomy x y with q | q | q
  · exact absurd e (it_ne s h q hy)
  · exact q
  · exact absurd e.symm (it_ne s h q hx)
theorem it_mod (s : Sh p) {b : Nat} (h : b < p.length) (k : Nat) : it p k b = it p (k % per p b) b := by
  have q : ∀ m, it p (m * per p b) b = b := fun m => by
    induction m with
    | zero => simp [it]
    | succ m ih => rw [Nat.succ_mul, it_add, ih]; exact (per_spec s h).2.1
  have e : k = (k / per p b) * per p b + k % per p b := by rw [Nat.mul_comm]; exact (Nat.div_add_mod k (per p b)).symm
  conv => lhs; rw [e, it_add, q]
theorem mem_orb (s : Sh p) {b x : Nat} (h : b < p.length) : x ∈ orb p b ↔ ∃ k, x = it p k b := by
  constructor
  · intro m
    obtain ⟨k, _, rfl⟩ := List.mem_map.mp m
    exact ⟨k, rfl⟩
  · rintro ⟨k, rfl⟩
    rw [it_mod s h k]
    exact List.mem_map.mpr ⟨_, List.mem_range.mpr (Nat.mod_lt _ per_pos), rfl⟩
theorem orb_lt (s : Sh p) {b x : Nat} (h : b < p.length) (m : x ∈ orb p b) : x < p.length := by
  obtain ⟨k, rfl⟩ := (mem_orb s h).mp m
  exact it_lt s h k
theorem orb_self (s : Sh p) {b : Nat} (h : b < p.length) : b ∈ orb p b := (mem_orb s h).mpr ⟨0, rfl⟩
/-- two circles with a common place are one -/
theorem orb_meet (s : Sh p) {b c x : Nat} (hb : b < p.length) (hc : c < p.length) (m1 : x ∈ orb p b) (m2 : x ∈ orb p c) : c ∈ orb p b := by
  obtain ⟨i, rfl⟩ := (mem_orb s hb).mp m1
  obtain ⟨j, e⟩ := (mem_orb s hc).mp m2
  -- from x on to c
  have h1 : ∃ m, it p m (it p j c) = c := by
    refine ⟨per p c - j % per p c, ?_⟩
    have h2 : j % per p c < per p c := Nat.mod_lt _ per_pos
    rw [it_mod s hc j, ← it_add, show j % per p c + (per p c - j % per p c) = per p c by omega]
    exact (per_spec s hc).2.1
  obtain ⟨m, hm⟩ := h1
  rw [← e, ← it_add] at hm
  exact (mem_orb s hb).mpr ⟨_, hm.symm⟩
/-- all circles, each from its least place on -/
def addRow (p : List Nat) (rows : List (List Nat)) (b : Nat) : List (List Nat) := if b ∈ rows.flatten then rows else rows ++ [orb p b]
def rowsK (p : List Nat) (k : Nat) : List (List Nat) := (List.range k).foldl (addRow p) []
def circ (p : List Nat) : List (List Nat) := rowsK p p.length
theorem rows_succ (k : Nat) : rowsK p (k + 1) = addRow p (rowsK p k) k := by
  unfold rowsK
  rw [List.range_succ, List.foldl_append]
  rfl
structure Rows (p : List Nat) (k : Nat) (rs : List (List Nat)) : Prop where
  orbs : ∀ r ∈ rs, ∃ c, c < k ∧ r = orb p c
  nd : rs.flatten.Nodup
  all : ∀ c, c < k → c ∈ rs.flatten
theorem Rows.lt {k : Nat} {rs : List (List Nat)} (s : Sh p) (hk : k ≤ p.length) (r : Rows p k rs) : ∀ x ∈ rs.flatten, x < p.length := fun x hx => by
  obtain ⟨l, hl, hx⟩ := List.mem_flatten.mp hx
  obtain ⟨c, hc, rfl⟩ := r.orbs l hl
  exact orb_lt s (by omega) hx
theorem Rows.len {k : Nat} {rs : List (List Nat)} (s : Sh p) (hk : k ≤ p.length) (r : Rows p k rs) : rs.flatten.length ≤ p.length := by
  have := r.nd.length_le_of_subset (l₂ := List.range p.length) (fun x hx => List.mem_range.mpr (r.lt s hk x hx))
  simpa using this
theorem Rows.dis {k b : Nat} {rs : List (List Nat)} (s : Sh p) (hk : k ≤ p.length) (r : Rows p k rs) (hb : b < p.length) (nb : b ∉ rs.flatten) : ∀ x ∈ orb p b, x ∉ rs.flatten := fun x hx m => by
  obtain ⟨l, hl, hx2⟩ := List.mem_flatten.mp m
  obtain ⟨c, hc, rfl⟩ := r.orbs l hl
  exact nb (List.mem_flatten.mpr ⟨_, hl, orb_meet s (by omega) hb hx2 hx⟩)
theorem rows_ok (s : Sh p) : ∀ k, k ≤ p.length → Rows p k (rowsK p k)
  | 0, _ => ⟨fun r h => by simp [rowsK] at h, by simp [rowsK], fun c h => by omega⟩
  | k + 1, hk => by
    have ih := rows_ok s k (by omega)
    rw [rows_succ]
    unfold addRow
    split
    · rename_i m
      exact ⟨fun r h => let ⟨c, a, b⟩ := ih.orbs r h; ⟨c, by omega, b⟩, ih.nd, fun c hc => by
        rcases Nat.lt_or_ge c k with z | z
        · exact ih.all c z
        · rw [show c = k by omega]; exact m⟩
    · rename_i m
      have d := ih.dis s (by omega) (show k < p.length by omega) m
      refine ⟨fun r h => ?_, ?_, fun c hc => ?_⟩
      · rcases List.mem_append.mp h with z | z
        · obtain ⟨c, a, b⟩ := ih.orbs r z; exact ⟨c, by omega, b⟩
        · exact ⟨k, by omega, by simpa using z⟩
      · rw [List.flatten_append]
        simp only [List.flatten_cons, List.flatten_nil, List.append_nil]
        refine List.nodup_append.mpr ⟨ih.nd, orb_nodup s (by omega), fun x hx y hy e => ?_⟩
        subst e
        exact d x hy hx
      · rw [List.flatten_append]
        rcases Nat.lt_or_ge c k with z | z
        · exact List.mem_append_left _ (ih.all c z)
        · rw [show c = k by omega]
          exact List.mem_append_right _ (by simpa using orb_self s (by omega))
end
end Ci

namespace Pu
open PySem Dn Lr L2 Ci
/-! loops by their states -/
theorem whl_iter {t : DT} {b : DS} (S : Nat → Dn.Env) (m : Nat) (h : ∀ k, k < m → t (S k) = .ok true (S k) ∧ b (S k) = .nx (S (k + 1))) (hend : t (S m) = .ok false (S m)) : ∀ (j k fuel : Nat), k + j = m → j < fuel → whl t b fuel (S k) = .nx (S m)
  | 0, k, fuel + 1, e, _ => by
    have : k = m := by omega
    subst this
    unfold whl
    rw [hend]
  | j + 1, k, fuel + 1, e, hf => by
    obtain ⟨h1, h2⟩ := h k (by omega)
    unfold whl
    rw [h1]
    dsimp only
    rw [h2]
    exact whl_iter S m h hend j (k + 1) fuel (by omega) (by omega)
theorem forL_iter {g : DG} {b : DS} (S : Nat → Dn.Env) : ∀ (xs : List D) (k : Nat), (∀ i x, xs[i]? = some x → ∃ e1, g x (S (k + i)) = some e1 ∧ (b e1 = .nx (S (k + i + 1)))) → forL g b xs (S k) = .nx (S (k + xs.length))
  | [], k, _ => rfl
  | x :: xs, k, h => by
    obtain ⟨e1, h1, h2⟩ := h 0 x rfl
    unfold forL
    rw [show S k = S (k + 0) from rfl, h1]
    dsimp only
    rw [h2]
    dsimp only
    have := forL_iter S xs (k + 1) fun i y hy => by
      obtain ⟨e, a, b⟩ := h (i + 1) y (by simpa using hy)
      exact ⟨e, by rw [show k + 1 + i = k + (i + 1) by omega]; exact a, by rw [show k + 1 + i + 1 = k + (i + 1) + 1 by omega]; exact b⟩
    rw [show k + 0 + 1 = k + 1 by omega, this, List.length_cons, show k + 1 + xs.length = k + (xs.length + 1) by omega]
/-- the loop's name behind k turns of range -/
def lv (v : Option D) : Nat → Option D
  | 0 => v
  | k + 1 => some (.int (k : Nat))
/-! is_from, check_shuffle -/
theorem is_from_i {x a b : Int} : d_is_from [.int x, .int a, .int b] = .ok (.bl (decide (a ≤ x) && decide (x ≤ b))) .non := by
  have h : d_is_integer [.int x] = .ok (.bl true) .non := rfl
  by_cases h1 : a ≤ x <;> simp [d_is_from, b_is_from, runF, sRet, dAndV, dCall, aCons, aNil, dVar, clean, h, dChain, h1, outOf]
theorem unInts_tn (p : List Nat) : unInts (tn p) = some (p.map fun x : Nat => (x : Int)) := by
  have := unInts_map (p.map fun x : Nat => (x : Int))
  rw [List.map_map] at this
  exact this
theorem dedI_nodup : ∀ {xs : List Int}, xs.Nodup → dedI xs = xs
  | [], _ => rfl
  | x :: xs, h => by
    rw [List.nodup_cons] at h
    unfold dedI
    rw [if_neg (fun z => h.1 (List.contains_iff_mem.mp z)), dedI_nodup h.2]
theorem cast_nodup {p : List Nat} (h : p.Nodup) : (p.map fun x : Nat => (x : Int)).Nodup := nodup_map_on h fun x _ y _ e => by omega
theorem gLenS_ok {p : List Nat} (h : p.Nodup) (hl : p.length ≤ 1000) : gLenS (.tup (tn p)) = some (.int (p.length : Nat)) := by
  unfold gLenS
  simp only [unInts_tn, dedI_nodup (cast_nodup h), List.length_map]
  rw [if_pos (by omega)]
def trs (n : Nat) : List D := (List.replicate n true).map D.bl
theorem from_comp {p : List Nat} {v : Option D} (s : Sh p) (hl : p.length ≤ 1000) : dComp [1] (iAny (dVar 0)) (gN 1) dYes (dCall d_is_from (aCons (dVar 1) (aCons (dC (.int 0)) (aCons (dOp gSubt (dFn bLen (aCons (dVar 0) aNil)) (dC (.int 1))) aNil)))) [some (.tup (tn p)), v] = .ok (.val (.lst (trs p.length))) [some (.tup (tn p)), v] := by
  have hc := comp_pure (i := 1) (it := iAny (dVar 0)) (t := dYes) (e := dCall d_is_from (aCons (dVar 1) (aCons (dC (.int 0)) (aCons (dOp gSubt (dFn bLen (aCons (dVar 0) aNil)) (dC (.int 1))) aNil)))) (env := [some (.tup (tn p)), v]) (tn p) (fun _ => true) (fun _ => .bl true) rfl (by simp) (by simp; omega) (fun y hy => by
    obtain ⟨z, hz, rfl⟩ := List.mem_map.mp hy
    refine ⟨rfl, fun _ => ?_⟩
    have := s.lt z hz
    have e1 : (0 : Int) ≤ z := by omega
    have e2 : (z : Int) ≤ p.length - 1 := by omega
    simp [dCall, aCons, aNil, dVar, dC, dOp, dFn, rds, clean, is_from_i, e1, e2])
  have ef : (((tn p).filter fun _ => true).map fun _ => D.bl true) = trs p.length := by
    rw [show (tn p).filter (fun _ => true) = tn p from by simp]
    unfold tn trs
    rw [List.map_map, List.map_replicate]
    exact List.map_const' (l := p) (b := D.bl true)
  rw [ef] at hc
  exact hc
theorem bAll_ok {bs : List Bool} : bAll [.lst (bs.map D.bl)] = some (.bl (bs.all id)) := by
  unfold bAll
  simp only [unBls_map]
  rfl
theorem check_ok {p : List Nat} (s : Sh p) (hl : p.length ≤ 60) : d_check_shuffle [.tup (tn p)] = .ok .non .non := by
  have hc := from_comp (v := none) s (by omega)
  have hg := gLenS_ok s.nd (by omega)
  have ha : bAll [.lst (trs p.length)] = some (.bl true) := by unfold trs; rw [bAll_ok]; simp
  have c1 : ¬ (60 : Int) < p.length := by omega
  show runF 2 false b_check_shuffle _ = _
  unfold b_check_shuffle
  generalize (dComp [1] (iAny (dVar 0)) (gN 1) dYes (dCall d_is_from (aCons (dVar 1) (aCons (dC (.int 0)) (aCons (dOp gSubt (dFn bLen (aCons (dVar 0) aNil)) (dC (.int 1))) aNil))))) = C at hc ⊢
  have ht : gIsi .tuple (.tup (tn p)) = some (.bl true) := rfl
  simp [runF, sSeq, sIf, sNil, dOr, dNot, dTest, dUn, dVar, dOp, dFn, aCons, aNil, dC, rds, ht, c1, hc, ha, hg, outOf]
/-! circles_of -/
def kn (xs : List Nat) : List (Key × D) := xs.map fun x : Nat => ((Sum.inl (x : Int) : Key), D.bl true)
theorem kn_find {xs : List Nat} {x : Nat} : (findD (kn xs) (Sum.inl (x : Int))).isSome = decide (x ∈ xs) := by
  induction xs with
  | nil => rfl
  | cons y ys ih =>
    show (findD (((Sum.inl (y : Int) : Key), D.bl true) :: kn ys) (Sum.inl (x : Int))).isSome = _
    rw [findD_cons]
    by_cases h : y = x
    · subst h; simp
    · have : ¬ ((Sum.inl (y : Int) : Key) = Sum.inl (x : Int)) := fun e => h (by injection e with e; omega)
      rw [if_neg this, ih]
      simp [Ne.symm h]
theorem kn_put {xs : List Nat} {x : Nat} (h : x ∉ xs) : putD (kn xs) (Sum.inl (x : Int)) (D.bl true) = kn (xs ++ [x]) := by
  unfold putD
  rw [if_neg]
  · simp [kn]
  · intro z
    obtain ⟨kv, h1, h2⟩ := List.any_eq_true.mp z
    obtain ⟨y, hy, rfl⟩ := List.mem_map.mp h1
    have e := of_decide_eq_true h2
    injection e with e
    have : y = x := by omega
    exact h (this ▸ hy)
theorem notin_kn {xs : List Nat} {x : Nat} : gNotInV (.int (x : Nat)) (.dK (kn xs)) = some (.bl (decide (x ∉ xs))) := by
  show ((gDGet (.dK (kn xs)) (.int (x : Nat))).map Option.isSome).map (fun b => D.bl (!b)) = _
  have : gDGet (.dK (kn xs)) (.int (x : Nat)) = some (findD (kn xs) (Sum.inl (x : Int))) := rfl
  rw [this]
  simp only [Option.map_some, kn_find]
  by_cases h : x ∈ xs <;> simp [h]
theorem put_kn {xs : List Nat} {x : Nat} (h : x ∉ xs) (hl : xs.length < 1000000) : gDPut (.dK (kn xs)) (.int (x : Nat)) (.bl true) = some (.dK (kn (xs ++ [x]))) := by
  unfold gDPut
  simp only [kn, List.length_map]
  rw [if_pos hl]
  have := kn_put h
  unfold kn at this
  simp only [keyD, Option.map_some, this]
abbrev coT : DT := dTest (dOp gNotInV (dVar 5) (dOwn 3))
abbrev coB : DS := sSeq (sDSet 3 (dC (.bl true)) (dVar 5)) (sSeq (sExpr (dMut 4 mAppend (aCons (dVar 5) aNil))) (sSet 5 (dOp gIx (dVar 0) (dVar 5))))
/-- the walk along one circle, behind k steps -/
def coE (p done : List Nat) (fd : List D) (b k : Nat) : Dn.Env := [some (.tup (tn p)), some (.int (b : Nat)), some (.lst fd), some (.dK (kn (done ++ (List.range k).map fun j => it p j b))), some (.lst (tn ((List.range k).map fun j => it p j b))), some (.int (it p k b : Nat))]
theorem co_in {p done : List Nat} {fd : List D} {b k : Nat} : coT (coE p done fd b k) = .ok (decide (it p k b ∉ done ++ (List.range k).map fun j => it p j b)) (coE p done fd b k) := by
  unfold coT coE
  simp only [dTest, dOp, dVar, dOwn, look0, lookS, rd_val, rd_slot, unfz_dK, notin_kn]
theorem co_step {p done : List Nat} {fd : List D} {b k : Nat} (s : Sh p) (hp : p.length ≤ 1000) (hb : b < p.length) (hd : done.length ≤ 1000) (hk : k < 1001) (h : it p k b ∉ done ++ (List.range k).map fun j => it p j b) : coB (coE p done fd b k) = .nx (coE p done fd b (k + 1)) := by
  have h1 := put_kn h (by simp; omega)
  have h2 := mAppend_ok (xs := tn ((List.range k).map fun j => it p j b)) (y := .int (it p k b : Nat)) (by simp; omega)
  have h3 : atI (tn p) (it p k b : Nat) = some (.int (it p (k + 1) b : Nat)) := by
    rw [atI_n, tn_get, ev_get (it_lt s hb k)]
    rfl
  have e1 : done ++ (List.range k).map (fun j => it p j b) ++ [it p k b] = done ++ (List.range (k + 1)).map fun j => it p j b := by rw [List.range_succ]; simp
  have e2 : tn ((List.range k).map fun j => it p j b) ++ [.int (it p k b : Nat)] = tn ((List.range (k + 1)).map fun j => it p j b) := by rw [List.range_succ]; simp [tn]
  rw [e1] at h1
  rw [e2] at h2
  unfold coB coE
  simp only [sSeq, sDSet, dC, dVar, look0, lookS, rd_val, h1, List.set_cons_succ, List.set_cons_zero, sExpr, dMut, aCons, aNil, clean, Option.map_some, h2, sSet, dOp, gIx_t, h3]
theorem co_whl {p done : List Nat} {fd : List D} {b : Nat} (s : Sh p) (hp : p.length ≤ 1000) (hb : b < p.length) (hd : done.length ≤ 1000) (hdis : ∀ x ∈ orb p b, x ∉ done) : whl coT coB WF (coE p done fd b 0) = .nx (coE p done fd b (per p b)) := by
  have pr := per_spec s hb
  refine whl_iter (coE p done fd b) (per p b) (fun k hk => ?_) ?_ (per p b) 0 WF (by omega) (Nat.lt_of_lt_of_le (show per p b < 1001 by omega) (by decide +kernel))
  · have h : it p k b ∉ done ++ (List.range k).map fun j => it p j b := fun m => by
      rcases List.mem_append.mp m with z | z
      · exact hdis _ ((mem_orb s hb).mpr ⟨k, rfl⟩) z
      · obtain ⟨j, hj, e⟩ := List.mem_map.mp z
        exact it_ne s hb (List.mem_range.mp hj) hk e
    exact ⟨by rw [co_in, decide_eq_true h], co_step s hp hb hd (by omega) h⟩
  · rw [co_in]
    have : it p (per p b) b ∈ done ++ (List.range (per p b)).map fun j => it p j b := List.mem_append_right _ (List.mem_map.mpr ⟨0, List.mem_range.mpr per_pos, pr.2.1.symm⟩)
    rw [decide_eq_false (fun z => z this)]
def trow (rs : List (List Nat)) : List D := rs.map fun r => D.tup (tn r)
abbrev coO : DS := sIf (dTest (dOp gNotInV (dVar 1) (dOwn 3)))
    (sSeq (sPar [4, 5] (pCons (dDisp .lst aNil) (pCons (dVar 1) pNil))) (sSeq (whl coT coB WF) (sExpr (dMut 2 mAppend (aCons (dFn bTuple (aCons (dOwn 4) aNil)) aNil))))) sNil
theorem co_turn {p : List Nat} {k : Nat} {v4 v5 : Option D} (s : Sh p) (hp : p.length ≤ 1000) (hk : k < p.length) :
    ∃ v4' v5', coO [some (.tup (tn p)), some (.int (k : Nat)), some (.lst (trow (rowsK p k))), some (.dK (kn (rowsK p k).flatten)), v4, v5] = .nx [some (.tup (tn p)), some (.int (k : Nat)), some (.lst (trow (rowsK p (k + 1)))), some (.dK (kn (rowsK p (k + 1)).flatten)), v4', v5'] := by
  have R := rows_ok s k (by omega)
  have hn := notin_kn (xs := (rowsK p k).flatten) (x := k)
  rw [rows_succ]
  unfold addRow
  by_cases m : k ∈ (rowsK p k).flatten
  · rw [decide_eq_false (fun z => z m)] at hn
    rw [if_pos m]
    refine ⟨v4, v5, ?_⟩
    unfold coO
    generalize whl coT coB WF = Wl
    simp only [sIf, dTest, dOp, dVar, dOwn, look0, lookS, rd_val, rd_slot, unfz_dK, hn, sNil]
  · rw [decide_eq_true m] at hn
    rw [if_neg m]
    have hw := co_whl (fd := trow (rowsK p k)) s hp hk (by have := R.len s (by omega); omega) (R.dis s (by omega) hk m)
    have h2 := mAppend_ok (xs := trow (rowsK p k)) (y := .tup (tn (orb p k))) (by
      have : (rowsK p k).length ≤ k := by
        clear hw hn m R hk
        induction k with
        | zero => simp [rowsK]
        | succ k ih =>
          rw [rows_succ]
          unfold addRow
          split
          · omega
          · simp; omega
      simp [trow]
      omega)
    have e2 : trow (rowsK p k) ++ [.tup (tn (orb p k))] = trow (rowsK p k ++ [orb p k]) := by simp [trow]
    rw [e2] at h2
    have e0 : coE p (rowsK p k).flatten (trow (rowsK p k)) k 0 = [some (.tup (tn p)), some (.int (k : Nat)), some (.lst (trow (rowsK p k))), some (.dK (kn (rowsK p k).flatten)), some (.lst []), some (.int (k : Nat))] := by
      unfold coE
      simp [tn, it]
    have e1 : coE p (rowsK p k).flatten (trow (rowsK p k)) k (per p k) = [some (.tup (tn p)), some (.int (k : Nat)), some (.lst (trow (rowsK p k))), some (.dK (kn (rowsK p k ++ [orb p k]).flatten)), some (.lst (tn (orb p k))), some (.int (it p (per p k) k : Nat))] := by
      unfold coE orb
      simp
    rw [e0, e1] at hw
    refine ⟨some (.lst (tn (orb p k))), some (.int (it p (per p k) k : Nat)), ?_⟩
    unfold coO
    generalize whl coT coB WF = Wl at hw ⊢
    simp only [sIf, dTest, dOp, dVar, dOwn, look0, lookS, rd_val, rd_slot, unfz_dK, unfz_lst, hn, sSeq, sPar, pCons, pNil, dDisp, aNil, clean, List.length_nil, Nat.zero_le, if_true, setsE, List.set_cons_succ, List.set_cons_zero, hw, sExpr, dMut, aCons, dFn, rds, bTuple_l, Option.map_some, h2]
theorem circles_of_ok {p : List Nat} (s : Sh p) (hp : p.length ≤ 1000) : d_circles_of [.tup (tn p)] = .rn (.lst (trow (circ p))) .non := by
  obtain ⟨env', q1, k, v1, v4, v5, hk, hr, he⟩ := forL_inv (g := gN 1) (b := coO) (fun rem env => ∃ (k : Nat) (v1 v4 v5 : Option D), k ≤ p.length ∧ rem = (tn (List.range p.length)).drop k ∧ env = [some (.tup (tn p)), v1, some (.lst (trow (rowsK p k))), some (.dK (kn (rowsK p k).flatten)), v4, v5]) (fun x r env ⟨k, v1, v4, v5, hk, hr, he⟩ => by
    have hk2 : k < p.length := by
      have := congrArg List.length hr
      simp at this
      omega
    have hx : (tn (List.range p.length))[k]? = some x := by
      have := congrArg List.head? hr
      simpa [List.head?_drop] using this.symm
    have hx2 : x = .int (k : Nat) := by
      rw [tn_get] at hx
      simp [List.getElem?_range hk2] at hx
      exact hx.symm
    obtain ⟨v4', v5', h⟩ := co_turn (v4 := v4) (v5 := v5) s hp hk2
    refine ⟨_, _, by rw [he]; rfl, by rw [hx2]; exact h, k + 1, _, v4', v5', by omega, ?_, rfl⟩
    have := congrArg List.tail hr
    simpa using this)
    (tn (List.range p.length)) [some (.tup (tn p)), none, some (.lst (trow (rowsK p 0))), some (.dK (kn (rowsK p 0).flatten)), none, none] ⟨0, none, none, none, by omega, rfl, rfl⟩
  have hk3 : k = p.length := by
    have := congrArg List.length hr
    simp at this
    omega
  subst hk3
  rw [he] at q1
  have h0 : (rowsK p 0) = [] := rfl
  rw [h0] at q1
  have f : sFor (iFn range1 (aCons (dFn bLen (aCons (dVar 0) aNil)) aNil)) (gN 1) coO [some (.tup (tn p)), none, some (.lst []), some (.dK []), none, none] = .nx [some (.tup (tn p)), v1, some (.lst (trow (circ p))), some (.dK (kn (circ p).flatten)), v4, v5] := by
    have hr := range1_ok (n := p.length) (by omega)
    rw [tn_range] at hr
    have e : iFn range1 (aCons (dFn bLen (aCons (dVar 0) aNil)) aNil) [some (.tup (tn p)), none, some (.lst []), some (.dK []), none, none] = .ok (tn (List.range p.length)) [some (.tup (tn p)), none, some (.lst []), some (.dK []), none, none] := by
      simp only [iFn, aCons, aNil, dFn, dVar, rds, look0, rd_val, bLen_t, tn_len, hr]
    unfold sFor
    rw [e]
    exact q1
  show runF 6 false b_circles_of _ = _
  unfold b_circles_of
  generalize sFor (iFn range1 (aCons (dFn bLen (aCons (dVar 0) aNil)) aNil)) (gN 1) _ = F at f ⊢
  simp [runF, sSeq, sPar, pCons, pNil, dDisp, aNil, clean, dC, setsE, f, sRet, dOwn, outOf]
end Pu

namespace Pu
open PySem Dn Lr L2 Ci
theorem flats_tn : ∀ xs : List Nat, flats (tn xs) = some (xs.map fun x : Nat => V.int (x : Int))
  | [] => rfl
  | x :: xs => by
    show flats (.int (x : Nat) :: tn xs) = _
    unfold flats
    rw [flats_tn xs]
    rfl
theorem inV_tn {xs : List Nat} {x : Nat} : inV (.int (x : Nat)) (xs.map fun x : Nat => V.int (x : Int)) = decide (x ∈ xs) := by
  induction xs with
  | nil => rfl
  | cons y ys ih =>
    have e : inV (.int (x : Nat)) ((y :: ys).map fun x : Nat => V.int (x : Int)) = (decide ((y : Int) = (x : Int)) || inV (.int (x : Nat)) (ys.map fun x : Nat => V.int (x : Int))) := by
      show ((eqV (.int (y : Nat)) (.int (x : Nat))) || _) = _
      have : eqV (.int (y : Nat)) (.int (x : Nat)) = decide ((y : Int) = (x : Int)) := by
        show ((y : Int) == (x : Int)) = _
        by_cases h : (y : Int) = (x : Int) <;> simp [h]
      rw [this]
      rfl
    rw [e, ih]
    by_cases h : y = x
    · subst h; simp
    · have : ¬ (y : Int) = (x : Int) := by omega
      simp [this, Ne.symm h]
theorem in_l {xs : List Nat} {x : Nat} : gInA (.int (x : Nat)) (.lst (tn xs)) = some (decide (x ∈ xs)) := by
  have h : gInB (.int (x : Nat)) (.lst (tn xs)) = some (decide (x ∈ xs)) := by
    unfold gInB
    simp only [flatD, flats_tn, inV_tn]
  unfold gInA
  simp only [h]
theorem in_t {xs : List Nat} {x : Nat} : gInA (.int (x : Nat)) (.tup (tn xs)) = some (decide (x ∈ xs)) := by
  have h : gInB (.int (x : Nat)) (.tup (tn xs)) = some (decide (x ∈ xs)) := by
    unfold gInB
    simp only [flatD, flats_tn, inV_tn]
  unfold gInA
  simp only [h]
theorem notin_l {xs : List Nat} {x : Nat} : gNotInV (.int (x : Nat)) (.lst (tn xs)) = some (.bl (decide (x ∉ xs))) := by
  unfold gNotInV
  rw [in_l]
  by_cases h : x ∈ xs <;> simp [h]
theorem atI_last {α : Type} {xs : List α} {x : α} : atI (xs ++ [x]) (-1) = some x := by
  have : ixN (xs ++ [x]).length (-1) = some xs.length := by
    unfold ixN
    rw [if_neg (by decide), if_pos (by simp; omega)]
    simp
    omega
  unfold atI
  rw [this]
  simp
theorem gAdd_l {xs ys : List D} (h : xs.length + ys.length ≤ 1000000) : gAdd (.lst xs) (.lst ys) = some (.lst (xs ++ ys)) := by
  unfold gAdd
  simp only [h, if_true]
/-! _law_circles -/
abbrev lcB : DS := sIf (dTest (dOp gNotInV (dOp gIx (dVar 0) (dOp gIx (dOwn 4) (dUn gNeg (dC (.int 1))))) (dOwn 4))) (sExpr (dMut 4 mAppend (aCons (dOp gIx (dVar 0) (dOp gIx (dOwn 4) (dUn gNeg (dC (.int 1))))) aNil))) sNil
def pre (p : List Nat) (b k : Nat) : List Nat := (List.range k).map fun j => it p j b
theorem pre_succ {p : List Nat} {b k : Nat} : pre p b (k + 1) = pre p b k ++ [it p k b] := by unfold pre; rw [List.range_succ]; simp
theorem pre_orb {p : List Nat} {b : Nat} : pre p b (per p b) = orb p b := rfl
theorem lc_lap {p : List Nat} {b k : Nat} {v1 v2 v3 v5 : Option D} (s : Sh p) (hp : p.length ≤ 1000) (hb : b < p.length) (hk : k < per p b) :
    lcB [some (.tup (tn p)), v1, v2, v3, some (.lst (tn (pre p b (k + 1)))), v5] = .nx [some (.tup (tn p)), v1, v2, v3, some (.lst (tn (pre p b (if k + 1 < per p b then k + 2 else k + 1)))), v5] := by
  have pr := per_spec s hb
  have h1 : atI (tn (pre p b (k + 1))) (-1) = some (.int (it p k b : Nat)) := by
    rw [pre_succ]
    have : tn (pre p b k ++ [it p k b]) = tn (pre p b k) ++ [.int (it p k b : Nat)] := by simp [tn]
    rw [this, atI_last]
  have h3 : atI (tn p) (it p k b : Nat) = some (.int (it p (k + 1) b : Nat)) := by
    rw [atI_n, tn_get, ev_get (it_lt s hb k)]
    rfl
  have hn := notin_l (xs := pre p b (k + 1)) (x := it p (k + 1) b)
  have hg : gNeg (.int 1) = some (.int (-1)) := rfl
  by_cases c : k + 1 < per p b
  · rw [if_pos c]
    have m : it p (k + 1) b ∉ pre p b (k + 1) := fun z => by
      obtain ⟨j, hj, e⟩ := List.mem_map.mp z
      exact it_ne s hb (List.mem_range.mp hj) c e
    rw [decide_eq_true m] at hn
    have h2 := mAppend_ok (xs := tn (pre p b (k + 1))) (y := .int (it p (k + 1) b : Nat)) (by simp [pre]; omega)
    have e2 : tn (pre p b (k + 1)) ++ [.int (it p (k + 1) b : Nat)] = tn (pre p b (k + 2)) := by rw [pre_succ (k := k + 1)]; simp [tn]
    rw [e2] at h2
    unfold lcB
    simp only [sIf, dTest, dOp, dVar, dOwn, dUn, dC, look0, lookS, rd_val, rd_slot, unfz_lst, hg, gIx_l, gIx_t, h1, h3, hn, sExpr, dMut, aCons, aNil, clean, Option.map_some, h2, List.set_cons_succ, List.set_cons_zero]
  · rw [if_neg c]
    have e : k + 1 = per p b := by omega
    have m : it p (k + 1) b ∈ pre p b (k + 1) := by
      rw [e, pr.2.1]
      exact List.mem_map.mpr ⟨0, List.mem_range.mpr per_pos, rfl⟩
    rw [decide_eq_false (fun z => z m)] at hn
    unfold lcB
    simp only [sIf, dTest, dOp, dVar, dOwn, dUn, dC, look0, lookS, rd_val, rd_slot, unfz_lst, hg, gIx_l, gIx_t, h1, h3, hn, sNil]
theorem lc_laps {p : List Nat} {b : Nat} {v1 v2 v3 v5 : Option D} (s : Sh p) (hp : p.length ≤ 1000) (hb : b < p.length) :
    ∃ v5', forL (gN 5) lcB (tn (List.range p.length)) [some (.tup (tn p)), v1, v2, v3, some (.lst (tn [b])), v5] = .nx [some (.tup (tn p)), v1, v2, v3, some (.lst (tn (orb p b))), v5'] := by
  have pr := per_spec s hb
  have pp := per_pos (p := p) (b := b)
  obtain ⟨env', q1, j, v, hj, hr, he⟩ := forL_inv (g := gN 5) (b := lcB) (fun rem env => ∃ (j : Nat) (v : Option D), j ≤ p.length ∧ rem = (tn (List.range p.length)).drop j ∧ env = [some (.tup (tn p)), v1, v2, v3, some (.lst (tn (pre p b (min (j + 1) (per p b))))), v]) (fun x r env ⟨j, v, hj, hr, he⟩ => by
    have hj2 : j < p.length := by
      have := congrArg List.length hr
      simp at this
      omega
    have ht := congrArg List.tail hr
    obtain ⟨k, hk, ek⟩ : ∃ k, k < per p b ∧ min (j + 1) (per p b) = k + 1 := ⟨min (j + 1) (per p b) - 1, by omega, by omega⟩
    rw [ek] at he
    refine ⟨_, _, by rw [he]; rfl, lc_lap s hp hb hk, j + 1, some x, by omega, by simpa using ht, ?_⟩
    have : (if k + 1 < per p b then k + 2 else k + 1) = min (j + 1 + 1) (per p b) := by split <;> omega
    rw [this])
    (tn (List.range p.length)) [some (.tup (tn p)), v1, v2, v3, some (.lst (tn [b])), v5] ⟨0, v5, by omega, rfl, by rw [show min (0 + 1) (per p b) = 1 by omega]; rfl⟩
  have hj3 : j = p.length := by
    have := congrArg List.length hr
    simp at this
    omega
  subst hj3
  rw [show min (p.length + 1) (per p b) = per p b by omega, pre_orb] at he
  exact ⟨v, by rw [q1, he]⟩
abbrev lcO : DS := sIf (dTest (dOp gNotInV (dVar 1) (dVar 3)))
    (sSeq (sSet 4 (dDisp .lst (aCons (dVar 1) aNil)))
    (sSeq (sFor (iFn range1 (aCons (dFn bLen (aCons (dVar 0) aNil)) aNil)) (gN 5) lcB)
    (sSeq (sSet 3 (dOp gAdd (dVar 3) (dOwn 4)))
    (sExpr (dMut 2 mAppend (aCons (dFn bTuple (aCons (dOwn 4) aNil)) aNil)))))) sNil
theorem range_len {p : List Nat} {r : Dn.Env} (hp : p.length ≤ 1000) : iFn range1 (aCons (dFn bLen (aCons (dVar 0) aNil)) aNil) (some (.tup (tn p)) :: r) = .ok (tn (List.range p.length)) (some (.tup (tn p)) :: r) := by
  have hr := range1_ok (n := p.length) (by omega)
  rw [tn_range] at hr
  simp only [iFn, aCons, aNil, dFn, dVar, rds, look0, rd_val, bLen_t, tn_len, hr]
theorem rowsK_len {p : List Nat} : ∀ k, (rowsK p k).length ≤ k
  | 0 => by simp [rowsK]
  | k + 1 => by
    have := rowsK_len (p := p) k
    rw [rows_succ]
    unfold addRow
    split
    · omega
    · simp; omega
theorem lc_turn {p : List Nat} {k : Nat} {v4 v5 : Option D} (s : Sh p) (hp : p.length ≤ 1000) (hk : k < p.length) :
    ∃ v4' v5', lcO [some (.tup (tn p)), some (.int (k : Nat)), some (.lst (trow (rowsK p k))), some (.lst (tn (rowsK p k).flatten)), v4, v5] = .nx [some (.tup (tn p)), some (.int (k : Nat)), some (.lst (trow (rowsK p (k + 1)))), some (.lst (tn (rowsK p (k + 1)).flatten)), v4', v5'] := by
  have R := rows_ok s k (by omega)
  have hn := notin_l (xs := (rowsK p k).flatten) (x := k)
  rw [rows_succ]
  unfold addRow
  by_cases m : k ∈ (rowsK p k).flatten
  · rw [decide_eq_false (fun z => z m)] at hn
    rw [if_pos m]
    refine ⟨v4, v5, ?_⟩
    unfold lcO
    simp only [sIf, dTest, dOp, dVar, look0, lookS, rd_val, hn, sNil]
  · rw [decide_eq_true m] at hn
    rw [if_neg m]
    obtain ⟨v5', hw⟩ := lc_laps (b := k) (v1 := some (.int (k : Nat))) (v2 := some (.lst (trow (rowsK p k)))) (v3 := some (.lst (tn (rowsK p k).flatten))) (v5 := v5) s hp hk
    have rl := rowsK_len (p := p) k
    have h2 := mAppend_ok (xs := trow (rowsK p k)) (y := .tup (tn (orb p k))) (by simp [trow]; omega)
    have e2 : trow (rowsK p k) ++ [.tup (tn (orb p k))] = trow (rowsK p k ++ [orb p k]) := by simp [trow]
    rw [e2] at h2
    have l1 := R.len s (by omega)
    have l2 : (orb p k).length ≤ p.length := by have := (per_spec s hk).1; simp [orb]; omega
    have h4 := gAdd_l (xs := tn (rowsK p k).flatten) (ys := tn (orb p k)) (by rw [tn_len, tn_len]; omega)
    have e4 : tn (rowsK p k).flatten ++ tn (orb p k) = tn (rowsK p k ++ [orb p k]).flatten := by simp [tn]
    rw [e4] at h4
    have e0 : [D.int (k : Nat)] = tn [k] := rfl
    have fr : sFor (iFn range1 (aCons (dFn bLen (aCons (dVar 0) aNil)) aNil)) (gN 5) lcB [some (.tup (tn p)), some (.int (k : Nat)), some (.lst (trow (rowsK p k))), some (.lst (tn (rowsK p k).flatten)), some (.lst (tn [k])), v5] = .nx [some (.tup (tn p)), some (.int (k : Nat)), some (.lst (trow (rowsK p k))), some (.lst (tn (rowsK p k).flatten)), some (.lst (tn (orb p k))), v5'] := by
      unfold sFor
      rw [range_len hp]
      exact hw
    refine ⟨some (.lst (tn (orb p k))), v5', ?_⟩
    unfold lcO
    generalize sFor (iFn range1 (aCons (dFn bLen (aCons (dVar 0) aNil)) aNil)) (gN 5) lcB = F at fr ⊢
    have one : (tn [k]).length ≤ 1000000 := by simp
    simp only [sIf, dTest, dOp, dVar, dOwn, look0, lookS, rd_val, rd_slot, unfz_lst, hn, sSeq, sSet, dDisp, aCons, aNil, clean, Option.map_some, one, if_true, e0, List.set_cons_succ, List.set_cons_zero, fr, h4, sExpr, dMut, dFn, rds, bTuple_l, h2]
theorem l_circles_ok {p : List Nat} (s : Sh p) (hp : p.length ≤ 1000) : d_l_circles [.tup (tn p)] = .rn (.lst (trow (circ p))) .non := by
  obtain ⟨env', q1, k, v1, v4, v5, hk, hr, he⟩ := forL_inv (g := gN 1) (b := lcO) (fun rem env => ∃ (k : Nat) (v1 v4 v5 : Option D), k ≤ p.length ∧ rem = (tn (List.range p.length)).drop k ∧ env = [some (.tup (tn p)), v1, some (.lst (trow (rowsK p k))), some (.lst (tn (rowsK p k).flatten)), v4, v5]) (fun x r env ⟨k, v1, v4, v5, hk, hr, he⟩ => by
    have hk2 : k < p.length := by
      have := congrArg List.length hr
      simp at this
      omega
    have hx : (tn (List.range p.length))[k]? = some x := by
      have := congrArg List.head? hr
      simpa [List.head?_drop] using this.symm
    have hx2 : x = .int (k : Nat) := by
      rw [tn_get] at hx
      simp [List.getElem?_range hk2] at hx
      exact hx.symm
    obtain ⟨v4', v5', h⟩ := lc_turn (v4 := v4) (v5 := v5) s hp hk2
    refine ⟨_, _, by rw [he]; rfl, by rw [hx2]; exact h, k + 1, _, v4', v5', by omega, ?_, rfl⟩
    have := congrArg List.tail hr
    simpa using this)
    (tn (List.range p.length)) [some (.tup (tn p)), none, some (.lst (trow (rowsK p 0))), some (.lst (tn (rowsK p 0).flatten)), none, none] ⟨0, none, none, none, by omega, rfl, rfl⟩
  have hk3 : k = p.length := by
    have := congrArg List.length hr
    simp at this
    omega
  subst hk3
  rw [he] at q1
  have h0 : (rowsK p 0) = [] := rfl
  rw [h0] at q1
  have f : sFor (iFn range1 (aCons (dFn bLen (aCons (dVar 0) aNil)) aNil)) (gN 1) lcO [some (.tup (tn p)), none, some (.lst []), some (.lst []), none, none] = .nx [some (.tup (tn p)), v1, some (.lst (trow (circ p))), some (.lst (tn (circ p).flatten)), v4, v5] := by
    unfold sFor
    rw [range_len hp]
    exact q1
  show runF 6 false b_l_circles _ = _
  unfold b_l_circles
  generalize sFor (iFn range1 (aCons (dFn bLen (aCons (dVar 0) aNil)) aNil)) (gN 1) _ = F at f ⊢
  simp [runF, sSeq, sPar, pCons, pNil, dDisp, aNil, clean, dC, setsE, f, sRet, dOwn, outOf]
end Pu

namespace Pu
open PySem Dn Lr L2 Ci
/-! divisor, multiple; _law_common, _law_round -/
abbrev dvT : DT := dTest (dOp gNe (dVar 1) (dC (.int 0)))
abbrev dvB : DS := sPar [0, 1] (pCons (dVar 1) (pCons (dOp gMod (dVar 0) (dVar 1)) pNil))
theorem dv_whl : ∀ (b a fuel : Nat), b < fuel → whl dvT dvB fuel [some (.int (a : Nat)), some (.int (b : Nat))] = .nx [some (.int (Nat.gcd a b : Nat)), some (.int (0 : Nat))] := by
  intro b
  induction b using Nat.strongRecOn with
  | _ b ih =>
    intro a fuel hf
    cases fuel with
    | zero => omega
    | succ fuel =>
      by_cases h : b = 0
      · subst h
        unfold whl
        simp [dTest, dOp, dVar, dC]
      · have hm := gMod_i (a := (a : Int)) (b := (b : Int)) (by omega)
        have hlt : a % b < b := Nat.mod_lt _ (by omega)
        have q := ih (a % b) hlt b fuel (by omega)
        have hb : ¬ (b : Int) = 0 := by omega
        have e : ((a : Int) % (b : Int)) = ((a % b : Nat) : Int) := by omega
        unfold whl
        simp only [dTest, dOp, dVar, dC, look0, lookS, rd_val, gNe_i, ne_eq, hb, not_false_eq_true, decide_true, sPar, pCons, pNil, hm, setsE, List.set_cons_succ, List.set_cons_zero, e]
        rw [q]
        rw [Nat.gcd_comm a b, Nat.gcd_rec b a]
        rw [Nat.gcd_comm b (a % b)]
theorem divisor_ok {a b : Nat} (hb : b < 2 ^ 100) : d_divisor [.int (a : Nat), .int (b : Nat)] = .ok (.int (Nat.gcd a b : Nat)) .non := by
  have q := dv_whl b a WF (Nat.lt_of_lt_of_le hb (by decide +kernel))
  show runF 2 false b_divisor _ = _
  unfold b_divisor
  generalize whl dvT dvB WF = Wl at q ⊢
  simp [runF, sSeq, q, sRet, dVar, outOf]
def lcmL (ls : List Nat) : Nat := ls.foldl Nat.lcm 1
theorem lcm_step {f x : Nat} (hx : 0 < x) : ((f : Int) * (x : Int)) / (Nat.gcd f x : Nat) = (Nat.lcm f x : Nat) := by
  unfold Nat.lcm
  rw [← Int.natCast_mul, Int.natCast_ediv]
abbrev muB : DS := sSet 1 (dOp gDiv (dOp gMul (dVar 1) (dVar 2)) (dCall d_divisor (aCons (dVar 1) (aCons (dVar 2) aNil))))
theorem mu_for {d0 : D} : ∀ (ls : List Nat) (f : Nat) (v : Option D), (∀ x ∈ ls, 0 < x ∧ x < 2 ^ 50) → ∃ v', forL (gN 2) muB (tn ls) [some d0, some (.int (f : Nat)), v] = .nx [some d0, some (.int (ls.foldl Nat.lcm f : Nat)), v']
  | [], f, v, _ => ⟨v, rfl⟩
  | x :: ls, f, v, h => by
    obtain ⟨h1, h2⟩ := h x (by simp)
    obtain ⟨v', q⟩ := mu_for (d0 := d0) ls (Nat.lcm f x) (some (.int (x : Nat))) (fun y hy => h y (by simp [hy]))
    have hd := divisor_ok (a := f) (b := x) (Nat.lt_of_lt_of_le h2 (by decide))
    have hm := gMul_r (a := (f : Int)) (b := (x : Int)) (by
      have : (2 : Nat) ^ 50 ≤ 2 ^ 60 := by decide
      omega)
    have hg : 0 < Nat.gcd f x := Nat.gcd_pos_of_pos_right _ h1
    have hg2 : Nat.gcd f x ≤ x := Nat.gcd_le_right _ h1
    have hv := gDiv_i (a := (f : Int) * (x : Int)) (b := (Nat.gcd f x : Nat)) (by omega) (by
      have : (2 : Int) ^ 50 < 2 ^ 3000 := by decide +kernel
      have : ((2 ^ 50 : Nat) : Int) = (2 : Int) ^ 50 := by decide
      omega)
    rw [lcm_step h1] at hv
    refine ⟨v', ?_⟩
    show forL (gN 2) muB (.int (x : Nat) :: tn ls) _ = _
    unfold forL
    rw [show gN 2 (.int (x : Nat)) [some d0, some (.int (f : Nat)), v] = some [some d0, some (.int (f : Nat)), some (.int (x : Nat))] from rfl]
    have st : muB [some d0, some (.int (f : Nat)), some (.int (x : Nat))] = .nx [some d0, some (.int (Nat.lcm f x : Nat)), some (.int (x : Nat))] := by
      unfold muB
      simp only [sSet, dOp, dVar, dCall, aCons, aNil, look0, lookS, rd_val, clean, Option.map_some, hm, hd, hv, List.set_cons_succ, List.set_cons_zero]
    dsimp only
    rw [st]
    exact q
theorem multiple_ok {d0 : D} {ls : List Nat} (hd : d0 = .lst (tn ls) ∨ d0 = .tup (tn ls)) (h : ∀ x ∈ ls, 0 < x ∧ x < 2 ^ 50) : d_multiple [d0] = .ok (.int (lcmL ls : Nat)) .non := by
  obtain ⟨v', q⟩ := mu_for (d0 := d0) ls 1 none h
  have f : sFor (iAny (dVar 0)) (gN 2) muB [some d0, some (.int 1), none] = .nx [some d0, some (.int (lcmL ls : Nat)), v'] := by
    have e : iAny (dVar 0) [some d0, some (.int 1), none] = .ok (tn ls) [some d0, some (.int 1), none] := by
      rcases hd with rfl | rfl <;> rfl
    unfold sFor
    rw [e]
    exact q
  show runF 3 false b_multiple _ = _
  unfold b_multiple
  generalize sFor (iAny (dVar 0)) (gN 2) _ = F at f ⊢
  simp [runF, sSeq, sSet, dC, f, sRet, dVar, outOf]
/-! the law's way -/
abbrev cmB : DS := sIf (dTest (dOp gGt (dVar 4) (dC (.int 0)))) (sPar [3, 4] (pCons (dVar 4) (pCons (dOp gMod (dVar 3) (dVar 4)) pNil))) sNil
theorem cm_lap {a b v2 : Option D} {g l : Nat} : cmB [a, b, v2, some (.int (g : Nat)), some (.int (l : Nat))] = .nx [a, b, v2, some (.int ((if l = 0 then g else l : Nat) : Nat)), some (.int ((if l = 0 then 0 else g % l : Nat) : Nat))] := by
  by_cases h : l = 0
  · subst h
    simp [sIf, dTest, dOp, dVar, dC, sNil]
  · have hm := gMod_i (a := (g : Int)) (b := (l : Int)) (by omega)
    have hl : (0 : Int) < l := by omega
    have e : ((g : Int) % (l : Int)) = ((g % l : Nat) : Int) := by omega
    rw [if_neg h, if_neg h]
    unfold cmB
    simp only [sIf, dTest, dOp, dVar, dC, look0, lookS, rd_val, gGt_i, hl, decide_true, sPar, pCons, pNil, hm, e, setsE, List.set_cons_succ, List.set_cons_zero]
theorem cm_for {a b : Option D} : ∀ (xs : List D) (g l : Nat) (v : Option D), l ≤ xs.length → ∃ v', forL (gN 2) cmB xs [a, b, v, some (.int (g : Nat)), some (.int (l : Nat))] = .nx [a, b, v', some (.int (Nat.gcd g l : Nat)), some (.int (0 : Nat))]
  | [], g, l, v, h => by
    have : l = 0 := by simpa using h
    subst this
    exact ⟨v, by simp [forL]⟩
  | x :: xs, g, l, v, h => by
    have hl : (if l = 0 then 0 else g % l) ≤ xs.length := by
      simp at h
      split
      · omega
      · have := Nat.mod_lt g (show 0 < l by omega)
        omega
    obtain ⟨v', q⟩ := cm_for (a := a) (b := b) xs (if l = 0 then g else l) (if l = 0 then 0 else g % l) (some x) hl
    refine ⟨v', ?_⟩
    unfold forL
    rw [show gN 2 x [a, b, v, some (.int (g : Nat)), some (.int (l : Nat))] = some [a, b, some x, some (.int (g : Nat)), some (.int (l : Nat))] from rfl]
    dsimp only
    rw [cm_lap]
    dsimp only
    rw [q]
    have : Nat.gcd (if l = 0 then g else l) (if l = 0 then 0 else g % l) = Nat.gcd g l := by
      split
      · rename_i z; subst z; rfl
      · rw [Nat.gcd_comm g l, Nat.gcd_rec l g, Nat.gcd_comm l (g % l)]
    rw [this]
theorem common_ok {a b : Nat} (ha : 0 < a) (hb : 0 < b) (hb2 : b ≤ 200) : d_l_common [.int (a : Nat), .int (b : Nat)] = .ok (.int (Nat.lcm a b : Nat)) .non := by
  obtain ⟨v', q⟩ := cm_for (a := some (.int (a : Nat))) (b := some (.int (b : Nat))) (prog 0 1 200) a b none (by rw [prog_len]; exact hb2)
  have hm := gMul_r (a := (a : Int)) (b := (b : Int)) (by
    have : (200 : Nat) < 2 ^ 60 := by decide
    omega)
  have hg : 0 < Nat.gcd a b := Nat.gcd_pos_of_pos_right _ hb
  have hg2 : Nat.gcd a b ≤ b := Nat.gcd_le_right _ hb
  have hv := gDiv_i (a := (a : Int) * (b : Int)) (b := (Nat.gcd a b : Nat)) (by omega) (by
    have : (200 : Int) < 2 ^ 3000 := by decide +kernel
    omega)
  rw [lcm_step hb] at hv
  have f : sFor (iFn range1 (aCons (dC (.int 200)) aNil)) (gN 2) cmB [some (.int (a : Nat)), some (.int (b : Nat)), none, some (.int (a : Nat)), some (.int (b : Nat))] = .nx [some (.int (a : Nat)), some (.int (b : Nat)), v', some (.int (Nat.gcd a b : Nat)), some (.int (0 : Nat))] := q
  show runF 5 false b_l_common _ = _
  unfold b_l_common
  generalize sFor (iFn range1 (aCons (dC (.int 200)) aNil)) (gN 2) _ = F at f ⊢
  simp [runF, sSeq, sPar, pCons, pNil, dVar, setsE, f, sRet, dOp, hm, hv, outOf]
theorem lcm_pos {a b : Nat} (ha : 0 < a) (hb : 0 < b) : 0 < Nat.lcm a b := Nat.lcm_pos ha hb
abbrev lrB : DS := sSet 1 (dCall d_l_common (aCons (dVar 1) (aCons (dVar 2) aNil)))
theorem lr_for {d0 : D} : ∀ (ls : List Nat) (f : Nat) (v : Option D), 0 < f → (∀ x ∈ ls, 0 < x ∧ x ≤ 200) → ∃ v', forL (gN 2) lrB (tn ls) [some d0, some (.int (f : Nat)), v] = .nx [some d0, some (.int (ls.foldl Nat.lcm f : Nat)), v']
  | [], f, v, _, _ => ⟨v, rfl⟩
  | x :: ls, f, v, hf, h => by
    obtain ⟨h1, h2⟩ := h x (by simp)
    obtain ⟨v', q⟩ := lr_for (d0 := d0) ls (Nat.lcm f x) (some (.int (x : Nat))) (lcm_pos hf h1) (fun y hy => h y (by simp [hy]))
    have hd := common_ok hf h1 h2
    refine ⟨v', ?_⟩
    show forL (gN 2) lrB (.int (x : Nat) :: tn ls) _ = _
    unfold forL
    rw [show gN 2 (.int (x : Nat)) [some d0, some (.int (f : Nat)), v] = some [some d0, some (.int (f : Nat)), some (.int (x : Nat))] from rfl]
    have st : lrB [some d0, some (.int (f : Nat)), some (.int (x : Nat))] = .nx [some d0, some (.int (Nat.lcm f x : Nat)), some (.int (x : Nat))] := by
      unfold lrB
      simp only [sSet, dVar, dCall, aCons, aNil, look0, lookS, rd_val, clean, Option.map_some, hd, List.set_cons_succ, List.set_cons_zero]
    dsimp only
    rw [st]
    exact q
theorem l_round_ok {d0 : D} {ls : List Nat} (hd : d0 = .lst (tn ls) ∨ d0 = .tup (tn ls)) (h : ∀ x ∈ ls, 0 < x ∧ x ≤ 200) : d_l_round [d0] = .ok (.int (lcmL ls : Nat)) .non := by
  obtain ⟨v', q⟩ := lr_for (d0 := d0) ls 1 none (by omega) h
  have f : sFor (iAny (dVar 0)) (gN 2) lrB [some d0, some (.int 1), none] = .nx [some d0, some (.int (lcmL ls : Nat)), v'] := by
    have e : iAny (dVar 0) [some d0, some (.int 1), none] = .ok (tn ls) [some d0, some (.int 1), none] := by
      rcases hd with rfl | rfl <;> rfl
    unfold sFor
    rw [e]
    exact q
  show runF 3 false b_l_round _ = _
  unfold b_l_round
  generalize sFor (iAny (dVar 0)) (gN 2) _ = F at f ⊢
  simp [runF, sSeq, sSet, dC, f, sRet, dVar, outOf]
/-! lengths of circles -/
def lens (rs : List (List Nat)) : List Nat := rs.map List.length
theorem lens_comp {rs : List (List Nat)} {env : Dn.Env} {it : DI} {i : Nat} (hi : i < env.length) (hl : rs.length ≤ 100000) (hit : it env = .ok (trow rs) env) : dComp [i] it (gN i) dYes (dFn bLen (aCons (dVar i) aNil)) env = .ok (.val (.lst (tn (lens rs)))) env := by
  have hc := comp_pure (i := i) (it := it) (t := dYes) (e := dFn bLen (aCons (dVar i) aNil)) (env := env) (trow rs) (fun _ => true) (fun d => match d with | .tup xs => .int (xs.length : Nat) | _ => .non) hit hi (by simp [trow]; omega) (fun y hy => by
    obtain ⟨r, _, rfl⟩ := List.mem_map.mp hy
    refine ⟨rfl, fun _ => ?_⟩
    have e : look (env.set i (some (.tup (tn r)))) i = some (.tup (tn r)) := look_of (List.getElem?_set_self hi)
    simp only [dFn, aCons, aNil, dVar, e, rds, rd_val, bLen_t])
  have ef : (((trow rs).filter fun _ => true).map fun d => match d with | .tup xs => D.int (xs.length : Nat) | _ => .non) = tn (lens rs) := by
    rw [show (trow rs).filter (fun _ => true) = trow rs from by simp]
    unfold trow tn lens
    rw [List.map_map, List.map_map]
    apply List.map_congr_left
    intro r _
    simp
  rw [ef] at hc
  exact hc
theorem lens_ok {p : List Nat} (s : Sh p) : ∀ x ∈ lens (circ p), 0 < x ∧ x ≤ p.length := fun x hx => by
  obtain ⟨r, hr, rfl⟩ := List.mem_map.mp hx
  obtain ⟨c, hc, rfl⟩ := (rows_ok s p.length (by omega)).orbs r hr
  have := per_spec s hc
  have := per_pos (p := p) (b := c)
  simp [orb]
  omega
theorem circ_len {p : List Nat} : (circ p).length ≤ p.length := rowsK_len _
theorem round_by_ok {p : List Nat} (s : Sh p) (hp : p.length ≤ 1000) : d_round_by [.tup (tn p)] = .ok (.int (lcmL (lens (circ p)) : Nat)) .non := by
  have hc := circles_of_ok s hp
  have hi : iAny (dCall d_circles_of (aCons (dVar 0) aNil)) [some (.tup (tn p)), none] = .ok (trow (circ p)) [some (.tup (tn p)), none] := by
    simp only [iAny, dCall, aCons, aNil, dVar, look0, clean, Option.map_some, hc]
  have cl := circ_len (p := p)
  have h2 := lens_comp (i := 1) (env := [some (.tup (tn p)), none]) (by simp) (by omega) hi
  have hm := multiple_ok (d0 := .lst (tn (lens (circ p)))) (.inl rfl) (fun x hx => by
    have := lens_ok s x hx
    have : (1000 : Nat) < 2 ^ 50 := by decide
    omega)
  show runF 2 false b_round_by _ = _
  unfold b_round_by
  generalize (dComp [1] (iAny (dCall d_circles_of (aCons (dVar 0) aNil))) (gN 1) dYes (dFn bLen (aCons (dVar 1) aNil))) = C at h2 ⊢
  simp [runF, sRet, dCall, aCons, aNil, h2, clean, hm, outOf]
theorem round_of_ok {p : List Nat} (s : Sh p) (hp : p.length ≤ 60) : d_round_of [.tup (tn p)] = .ok (.int (lcmL (lens (circ p)) : Nat)) .non := by
  have h1 := check_ok s hp
  have h2 := round_by_ok s (by omega)
  simp [d_round_of, b_round_of, runF, sSeq, sExpr, dCall, aCons, aNil, dVar, clean, h1, sRet, h2, outOf]
theorem circles_ok {p : List Nat} (s : Sh p) (hp : p.length ≤ 60) : d_circles [.tup (tn p)] = .rn (.lst (trow (circ p))) .non := by
  have h1 := check_ok s hp
  have h2 := circles_of_ok s (by omega)
  simp [d_circles, b_circles, runF, sSeq, sExpr, dCall, dCallN, aCons, aNil, dVar, clean, h1, sRetN, h2, outOf]
end Pu

namespace Pu
open PySem Dn Lr L2 Ci
/-! _law_equal of a thing and itself -/
inductive Pl : Nat → D → Prop
  | non {n : Nat} : Pl (n + 1) .non
  | bl {n : Nat} (b : Bool) : Pl (n + 1) (.bl b)
  | int {n : Nat} (i : Int) : Pl (n + 1) (.int i)
  | str {n : Nat} (x : Str) : PyData.canLay0 (.str x) = true → Pl (n + 1) (.str x)
  | tup {n : Nat} {xs : List D} : xs.length ≤ 100000 → (∀ y ∈ xs, Pl n y) → Pl (n + 1) (.tup xs)
  | lst {n : Nat} {xs : List D} : xs.length ≤ 100000 → (∀ y ∈ xs, Pl n y) → Pl (n + 1) (.lst xs)
theorem gNe_b {a : Bool} : gNe (.bl a) (.bl a) = some (.bl false) := by cases a <;> rfl
theorem gEq_b {a : Bool} : gEq (.bl a) (.bl a) = some (.bl true) := by cases a <;> rfl
theorem gEq_s {x : Str} (h : PyData.canLay0 (.str x) = true) : gEq (.str x) (.str x) = some (.bl true) := by
  have hs : SeqAt.shaped (.str x) = true := by
    unfold SeqAt.shaped
    rw [h]
    rfl
  have he : PyData.eqv (.str x) (.str x) = true := by
    unfold PyData.eqv
    exact beq_self_eq_true x
  unfold gEq gEqB
  simp only [toPy, hs, Bool.and_self, if_true, he, Option.map_some]
theorem eq_comp {rec : DF} {d : D} {xs : List D} {v : Option D} (hd : d = .tup xs ∨ d = .lst xs) (hl : xs.length ≤ 100000) (hr : ∀ y ∈ xs, rec [y, y] = .ok (.bl true) .non) :
    dComp [2] (iFn range1 (aCons (dFn bLen (aCons (dVar 1) aNil)) aNil)) (gN 2) dYes (dCall rec (aCons (dOp gIx (dVar 0) (dVar 2)) (aCons (dOp gIx (dVar 1) (dVar 2)) aNil))) [some d, some d, none, v] = .ok (.val (.lst (trs xs.length))) [some d, some d, none, v] := by
  have hr1 := range1_ok (n := xs.length) (by omega)
  rw [tn_range] at hr1
  have bl : bLen [d] = some (.int xs.length) := by rcases hd with rfl | rfl <;> rfl
  have hi : iFn range1 (aCons (dFn bLen (aCons (dVar 1) aNil)) aNil) [some d, some d, none, v] = .ok (tn (List.range xs.length)) [some d, some d, none, v] := by
    simp only [iFn, aCons, aNil, dFn, dVar, rds, look0, lookS, rd_val, bl, hr1]
  have gi : ∀ k : Nat, gIx d (.int (k : Nat)) = xs[k]? := fun k => by
    rcases hd with rfl | rfl
    · rw [gIx_t, atI_n]
    · rw [gIx_l, atI_n]
  have hc := comp_pure (i := 2) (it := iFn range1 (aCons (dFn bLen (aCons (dVar 1) aNil)) aNil)) (t := dYes) (e := dCall rec (aCons (dOp gIx (dVar 0) (dVar 2)) (aCons (dOp gIx (dVar 1) (dVar 2)) aNil))) (env := [some d, some d, none, v]) (tn (List.range xs.length)) (fun _ => true) (fun _ => .bl true) hi (by simp) (by simp; omega) (fun y hy => by
    obtain ⟨k, hk, rfl⟩ := List.mem_map.mp hy
    have hk := List.mem_range.mp hk
    refine ⟨rfl, fun _ => ?_⟩
    have g1 := gi k
    rw [List.getElem?_eq_getElem hk] at g1
    have hrk := hr xs[k] (List.getElem_mem hk)
    simp only [dCall, aCons, aNil, dOp, dVar, List.set_cons_succ, List.set_cons_zero, look0, lookS, rd_val, g1, clean, Option.map_some, hrk])
  have ef : (((tn (List.range xs.length)).filter fun _ => true).map fun _ => D.bl true) = trs xs.length := by
    rw [show (tn (List.range xs.length)).filter (fun _ => true) = tn (List.range xs.length) from by simp]
    unfold trs
    rw [List.map_replicate]
    have := List.map_const' (l := tn (List.range xs.length)) (b := D.bl true)
    rw [tn_len, List.length_range] at this
    exact this
  rw [ef] at hc
  exact hc
theorem equal_refl : ∀ {n : Nat} {x : D}, Pl n x → d_l_equal n [x, x] = .ok (.bl true) .non
  | n + 1, _, .non => rfl
  | n + 1, _, .bl b => by cases b <;> rfl
  | n + 1, _, .int i => by
    show runF 4 false (b_l_equal (d_l_equal n)) _ = _
    have h1 : gIsN (.int i) .non = some (.bl false) := rfl
    have h2 : gIsi .bool (.int i) = some (.bl false) := rfl
    have h3 : gIsi .int (.int i) = some (.bl true) := rfl
    have h4 : notOp (.bl false) = some (.bl true) := rfl
    simp [runF, b_l_equal, sSeq, sIf, sNil, dTest, dOp, dUn, dVar, dC, h1, h2, h3, h4, sRet, dAndV, outOf]
  | n + 1, _, .str x hx => by
    show runF 4 false (b_l_equal (d_l_equal n)) _ = _
    have h1 : gIsN (.str x) .non = some (.bl false) := rfl
    have h2 : gIsi .bool (.str x) = some (.bl false) := rfl
    have h3 : gIsi .int (.str x) = some (.bl false) := rfl
    have h4 : gIsi .str (.str x) = some (.bl true) := rfl
    simp [runF, b_l_equal, sSeq, sIf, sNil, dTest, dOp, dUn, dVar, dC, h1, h2, h3, h4, sRet, dAndV, outOf, gEq_s hx]
  | n + 1, _, .tup (xs := xs) hl h => by
    have hc := eq_comp (d := .tup xs) (v := none) (.inl rfl) hl (fun y hy => equal_refl (h y hy))
    have ha : bAll [.lst (trs xs.length)] = some (.bl true) := by unfold trs; rw [bAll_ok]; simp
    have h1 : gIsN (.tup xs) .non = some (.bl false) := rfl
    have h2 : gIsi .bool (.tup xs) = some (.bl false) := rfl
    have h3 : gIsi .int (.tup xs) = some (.bl false) := rfl
    have h4 : gIsi .str (.tup xs) = some (.bl false) := rfl
    have h5 : gIsi .dict (.tup xs) = some (.bl false) := rfl
    have h6 : gIsi .tuple (.tup xs) = some (.bl true) := rfl
    have h7 : gIsi .list (.tup xs) = some (.bl false) := rfl
    show runF 4 false (b_l_equal (d_l_equal n)) _ = _
    unfold b_l_equal
    generalize (dComp [2] _ _ _ _) = C at hc ⊢
    generalize (dComp [3] _ _ _ _) = C3
    simp [runF, sSeq, sIf, sNil, dTest, dOp, dUn, dVar, dC, h1, h2, h3, h4, h5, h6, h7, gNe_b, sRet, dFn, aCons, aNil, rds, hc, ha, outOf]
  | n + 1, _, .lst (xs := xs) hl h => by
    have hc := eq_comp (d := .lst xs) (v := none) (.inr rfl) hl (fun y hy => equal_refl (h y hy))
    have ha : bAll [.lst (trs xs.length)] = some (.bl true) := by unfold trs; rw [bAll_ok]; simp
    have h1 : gIsN (.lst xs) .non = some (.bl false) := rfl
    have h2 : gIsi .bool (.lst xs) = some (.bl false) := rfl
    have h3 : gIsi .int (.lst xs) = some (.bl false) := rfl
    have h4 : gIsi .str (.lst xs) = some (.bl false) := rfl
    have h5 : gIsi .dict (.lst xs) = some (.bl false) := rfl
    have h6 : gIsi .tuple (.lst xs) = some (.bl false) := rfl
    have h7 : gIsi .list (.lst xs) = some (.bl true) := rfl
    show runF 4 false (b_l_equal (d_l_equal n)) _ = _
    unfold b_l_equal
    generalize (dComp [2] _ _ _ _) = C at hc ⊢
    generalize (dComp [3] _ _ _ _) = C3
    simp [runF, sSeq, sIf, sNil, dTest, dOp, dUn, dVar, dC, h1, h2, h3, h4, h5, h6, h7, gNe_b, sRet, dFn, aCons, aNil, rds, hc, ha, outOf]
theorem pl_tn {n : Nat} {p : List Nat} (hp : p.length ≤ 100000) : Pl (n + 2) (.tup (tn p)) := .tup (by simpa using hp) fun y hy => by
  obtain ⟨z, _, rfl⟩ := List.mem_map.mp hy
  exact .int _
theorem pl_trow {n : Nat} {rs : List (List Nat)} (h1 : rs.length ≤ 100000) (h2 : ∀ r ∈ rs, r.length ≤ 100000) : Pl (n + 3) (.lst (trow rs)) := .lst (by simpa [trow] using h1) fun y hy => by
  obtain ⟨r, hr, rfl⟩ := List.mem_map.mp hy
  exact pl_tn (h2 r hr)
end Pu

namespace Pu
open PySem Dn Lr L2 Ci
/-! done -/
def pw (p : List Nat) (t : Nat) : List Nat := (List.range p.length).map fun x => it p t x
/-- a shuffle some of whose places are led on already -/
def mid (p : List Nat) (t : Nat) (dn : List Nat) : List Nat := (List.range p.length).map fun x => if x ∈ dn then it p t x else ev p x
theorem mid_nil {p : List Nat} {t : Nat} : mid p t [] = p := by
  unfold mid
  apply List.ext_getElem?
  intro i
  rw [List.getElem?_map]
  by_cases h : i < p.length
  · rw [List.getElem?_range h, ev_get h]; simp
  · rw [List.getElem?_eq_none (by simpa using h), List.getElem?_eq_none (by omega)]; rfl
theorem mid_all {p dn : List Nat} {t : Nat} (h : ∀ x, x < p.length → x ∈ dn) : mid p t dn = pw p t := by
  unfold mid pw
  apply List.map_congr_left
  intro x hx
  rw [if_pos (h x (List.mem_range.mp hx))]
theorem mid_set {p dn : List Nat} {t x : Nat} (hx : x < p.length) : (mid p t dn).set x (it p t x) = mid p t (dn ++ [x]) := by
  apply List.ext_getElem?
  intro i
  rw [List.getElem?_set]
  unfold mid
  by_cases h : x = i
  · subst h
    rw [if_pos rfl, if_pos (by simpa using hx), List.getElem?_map, List.getElem?_range hx]
    simp
  · rw [if_neg h, List.getElem?_map, List.getElem?_map]
    by_cases hi : i < p.length
    · rw [List.getElem?_range hi]
      have : (i ∈ dn ++ [x]) ↔ i ∈ dn := by simp [Ne.symm h]
      simp only [Option.map_some, this]
    · rw [List.getElem?_eq_none (by simpa using hi)]
      rfl
theorem tn_set {l : List Nat} {i v : Nat} : (tn l).set i (.int (v : Nat)) = tn (l.set i v) := by
  unfold tn
  rw [List.map_set]
theorem enum_get {xs : List D} {i : Nat} : (enumD 0 xs)[i]? = xs[i]?.map fun d => .tup [.int ((i : Nat) : Int), d] := by
  cases h : xs[i]? with
  | some d =>
    rw [enumD_get xs 0 i d h]
    simp
  | none =>
    rw [List.getElem?_eq_none]
    · rfl
    · rw [enumD_len]
      exact List.getElem?_eq_none_iff.mp h
abbrev dbI : DS := sSetIx 2 (dOp gIx (dVar 3) (dOp gMod (dOp gAdd (dVar 4) (dVar 1)) (dFn bLen (aCons (dVar 3) aNil)))) (dVar 5)
theorem orb_get {p : List Nat} {b k : Nat} (hk : k < per p b) : (orb p b)[k]? = some (it p k b) := by
  unfold orb
  rw [List.getElem?_map, List.getElem?_range hk]
  rfl
theorem orb_len {p : List Nat} {b : Nat} : (orb p b).length = per p b := by simp [orb]
theorem db_in {p dn : List Nat} {t b j : Nat} (s : Sh p) (hp : p.length ≤ 1000) (hb : b < p.length) (hj : j < per p b) :
    dbI [some (.tup (tn p)), some (.int (t : Nat)), some (.lst (tn (mid p t dn))), some (.tup (tn (orb p b))), some (.int (j : Nat)), some (.int (it p j b : Nat))] =
      .nx [some (.tup (tn p)), some (.int (t : Nat)), some (.lst (tn (mid p t (dn ++ [it p j b])))), some (.tup (tn (orb p b))), some (.int (j : Nat)), some (.int (it p j b : Nat))] := by
  have pp := per_pos (p := p) (b := b)
  have hx := it_lt s hb j
  have hm := gMod_i (a := (j : Int) + t) (b := ((orb p b).length : Nat)) (by rw [orb_len]; omega)
  have e : ((j : Int) + t) % ((orb p b).length : Nat) = (((j + t) % per p b : Nat) : Int) := by rw [orb_len, Int.natCast_emod, Int.natCast_add]
  have ha : atI (tn (orb p b)) (((j + t) % per p b : Nat) : Int) = some (.int (it p t (it p j b) : Nat)) := by
    rw [atI_n, tn_get, orb_get (Nat.mod_lt _ pp), ← it_mod s hb, it_add]
    rfl
  have hi : ixN (mid p t dn).length (it p j b : Nat) = some (it p j b) := ixN_n (by simp [mid]; exact hx)
  have hs : (tn (mid p t dn)).set (it p j b) (.int (it p t (it p j b) : Nat)) = tn (mid p t (dn ++ [it p j b])) := by rw [tn_set, mid_set hx]
  unfold dbI
  rw [e] at hm
  simp only [sSetIx, dOp, dVar, dFn, aCons, aNil, look0, lookS, rds, rd_val, bLen_t, tn_len, gAdd_i, hm, gIx_t, ha, hi, hs, List.set_cons_succ, List.set_cons_zero]
abbrev dbG : DG := gTp 2 (gsCons (gN 4) (gsCons (gN 5) gsNil))
theorem db_row {p dn : List Nat} {t b : Nat} {v4 v5 : Option D} (s : Sh p) (hp : p.length ≤ 1000) (hb : b < p.length) :
    ∃ v4' v5', forL dbG dbI (enumD 0 (tn (orb p b))) [some (.tup (tn p)), some (.int (t : Nat)), some (.lst (tn (mid p t dn))), some (.tup (tn (orb p b))), v4, v5] = .nx [some (.tup (tn p)), some (.int (t : Nat)), some (.lst (tn (mid p t (dn ++ orb p b)))), some (.tup (tn (orb p b))), v4', v5'] := by
  obtain ⟨env', q1, j, w4, w5, hj, hr, he⟩ := forL_inv (g := dbG) (b := dbI) (fun rem env => ∃ (j : Nat) (w4 w5 : Option D), j ≤ per p b ∧ rem = (enumD 0 (tn (orb p b))).drop j ∧ env = [some (.tup (tn p)), some (.int (t : Nat)), some (.lst (tn (mid p t (dn ++ pre p b j)))), some (.tup (tn (orb p b))), w4, w5]) (fun x r env ⟨j, w4, w5, hj, hr, he⟩ => by
    have hj2 : j < per p b := by
      have := congrArg List.length hr
      simp [enumD_len, orb_len] at this
      omega
    have hx : (enumD 0 (tn (orb p b)))[j]? = some x := by
      have := congrArg List.head? hr
      simpa [List.head?_drop] using this.symm
    rw [enum_get, tn_get, orb_get hj2] at hx
    have hx2 : x = .tup [.int (j : Nat), .int (it p j b : Nat)] := (Option.some.inj hx).symm
    refine ⟨_, _, by rw [he, hx2]; rfl, db_in (dn := dn ++ pre p b j) s hp hb hj2, j + 1, some (.int (j : Nat)), some (.int (it p j b : Nat)), by omega, ?_, ?_⟩
    · have := congrArg List.tail hr
      simpa using this
    · rw [pre_succ, List.append_assoc])
    (enumD 0 (tn (orb p b))) [some (.tup (tn p)), some (.int (t : Nat)), some (.lst (tn (mid p t dn))), some (.tup (tn (orb p b))), v4, v5] ⟨0, v4, v5, by omega, rfl, by simp [pre]⟩
  have hj3 : j = per p b := by
    have := congrArg List.length hr
    simp [enumD_len, orb_len] at this
    omega
  subst hj3
  rw [pre_orb] at he
  exact ⟨w4, w5, by rw [q1, he]⟩
abbrev dbO : DS := sFor (iFnV bEnum (aCons (dVar 3) aNil)) dbG dbI
theorem db_rows {p : List Nat} {t : Nat} (s : Sh p) (hp : p.length ≤ 1000) : ∀ (rs : List (List Nat)) (dn : List Nat) (v3 v4 v5 : Option D), (∀ r ∈ rs, ∃ c, c < p.length ∧ r = orb p c) →
    ∃ w3 w4 w5, forL (gN 3) dbO (trow rs) [some (.tup (tn p)), some (.int (t : Nat)), some (.lst (tn (mid p t dn))), v3, v4, v5] = .nx [some (.tup (tn p)), some (.int (t : Nat)), some (.lst (tn (mid p t (dn ++ rs.flatten)))), w3, w4, w5]
  | [], dn, v3, v4, v5, _ => ⟨v3, v4, v5, by simp [trow, forL]⟩
  | r :: rs, dn, v3, v4, v5, h => by
    obtain ⟨c, hc, rfl⟩ := h r (by simp)
    obtain ⟨x4, x5, q1⟩ := db_row (dn := dn) (t := t) (v4 := v4) (v5 := v5) s hp hc
    obtain ⟨w3, w4, w5, q2⟩ := db_rows s hp rs (dn ++ orb p c) (some (.tup (tn (orb p c)))) x4 x5 (fun r hr => h r (by simp [hr]))
    refine ⟨w3, w4, w5, ?_⟩
    have st : dbO [some (.tup (tn p)), some (.int (t : Nat)), some (.lst (tn (mid p t dn))), some (.tup (tn (orb p c))), v4, v5] = .nx [some (.tup (tn p)), some (.int (t : Nat)), some (.lst (tn (mid p t (dn ++ orb p c)))), some (.tup (tn (orb p c))), x4, x5] := by
      unfold dbO sFor
      have e : iFnV bEnum (aCons (dVar 3) aNil) [some (.tup (tn p)), some (.int (t : Nat)), some (.lst (tn (mid p t dn))), some (.tup (tn (orb p c))), v4, v5] = .ok (enumD 0 (tn (orb p c))) [some (.tup (tn p)), some (.int (t : Nat)), some (.lst (tn (mid p t dn))), some (.tup (tn (orb p c))), v4, v5] := rfl
      rw [e]
      exact q1
    show forL (gN 3) dbO (.tup (tn (orb p c)) :: trow rs) _ = _
    unfold forL
    rw [show gN 3 (.tup (tn (orb p c))) [some (.tup (tn p)), some (.int (t : Nat)), some (.lst (tn (mid p t dn))), v3, v4, v5] = some [some (.tup (tn p)), some (.int (t : Nat)), some (.lst (tn (mid p t dn))), some (.tup (tn (orb p c))), v4, v5] from rfl]
    dsimp only
    rw [st]
    dsimp only
    rw [q2, List.flatten_cons, List.append_assoc]
theorem done_by_ok {p : List Nat} {t : Nat} (s : Sh p) (hp : p.length ≤ 1000) : d_done_by [.tup (tn p), .int (t : Nat)] = .ok (.tup (tn (pw p t))) .non := by
  have R := rows_ok s p.length (by omega)
  obtain ⟨w3, w4, w5, q⟩ := db_rows (t := t) s hp (circ p) [] none none none (fun r hr => R.orbs r hr)
  rw [mid_nil, List.nil_append, mid_all (show ∀ x, x < p.length → x ∈ (circ p).flatten from R.all)] at q
  have hc := circles_of_ok s hp
  have f : sFor (iAny (dCall d_circles_of (aCons (dVar 0) aNil))) (gN 3) dbO [some (.tup (tn p)), some (.int (t : Nat)), some (.lst (tn p)), none, none, none] = .nx [some (.tup (tn p)), some (.int (t : Nat)), some (.lst (tn (pw p t))), w3, w4, w5] := by
    have e : iAny (dCall d_circles_of (aCons (dVar 0) aNil)) [some (.tup (tn p)), some (.int (t : Nat)), some (.lst (tn p)), none, none, none] = .ok (trow (circ p)) [some (.tup (tn p)), some (.int (t : Nat)), some (.lst (tn p)), none, none, none] := by
      simp only [iAny, dCall, aCons, aNil, dVar, look0, clean, Option.map_some, hc]
    unfold sFor
    rw [e]
    exact q
  have bl : bListA [.tup (tn p)] = some (.lst (tn p)) := rfl
  show runF 6 false b_done_by _ = _
  unfold b_done_by
  generalize sFor (iAny (dCall d_circles_of (aCons (dVar 0) aNil))) (gN 3) _ = F at f ⊢
  simp [runF, sSeq, sSet, dFn, aCons, aNil, dVar, rds, bl, f, sRet, dOwn, outOf]
theorem done_ok {p : List Nat} {t : Nat} (s : Sh p) (hp : p.length ≤ 60) (ht : t ≤ 10 ^ 30) : d_done [.tup (tn p), .int (t : Nat)] = .ok (.tup (tn (pw p t))) .non := by
  have h1 := check_ok s hp
  have h2 := done_by_ok (t := t) s (by omega)
  have h3 := is_from_i (x := (t : Int)) (a := 0) (b := 1000000000000000000000000000000)
  have e1 : (0 : Int) ≤ t := by omega
  have e2 : (t : Int) ≤ 1000000000000000000000000000000 := by omega
  rw [decide_eq_true e1, decide_eq_true e2] at h3
  simp [d_done, b_done, runF, sSeq, sExpr, dCall, aCons, aNil, dVar, dC, clean, h1, sIf, sNil, dNot, dTest, h3, sRet, h2, outOf]
end Pu

/-! crossings and circles: plain laws -/
namespace Ci
open Pu
def cnt (x : Nat) (l : List Nat) : Nat := (l.filter fun y => decide (y < x)).length
def gt (x : Nat) (l : List Nat) : Nat := (l.filter fun y => decide (x < y)).length
def inv : List Nat → Nat
  | [] => 0
  | x :: l => cnt x l + inv l
def cross : List Nat → List Nat → Nat
  | [], _ => 0
  | a :: A, l => cnt a l + cross A l
theorem cnt_app (x : Nat) (a b : List Nat) : cnt x (a ++ b) = cnt x a + cnt x b := by simp [cnt]
theorem cnt_cons (x y : Nat) (l : List Nat) : cnt x (y :: l) = (if y < x then 1 else 0) + cnt x l := by
  unfold cnt
  by_cases h : y < x <;> simp [h]
  omega
theorem gt_cons (x y : Nat) (l : List Nat) : gt x (y :: l) = (if x < y then 1 else 0) + gt x l := by
  unfold gt
  by_cases h : x < y <;> simp [h]
  omega
theorem inv_app : ∀ (a l : List Nat), inv (a ++ l) = inv a + inv l + cross a l
  | [], l => by simp [inv, cross]
  | x :: a, l => by
    show cnt x (a ++ l) + inv (a ++ l) = cnt x a + inv a + inv l + (cnt x l + cross a l)
    rw [inv_app a l, cnt_app]
    omega
theorem cross_swap (x y : Nat) (b c : List Nat) : ∀ a : List Nat, cross a (x :: (b ++ y :: c)) = cross a (y :: (b ++ x :: c))
  | [] => rfl
  | z :: a => by
    show cnt z _ + cross a _ = cnt z _ + cross a _
    rw [cross_swap x y b c a, cnt_cons, cnt_cons, cnt_app, cnt_app, cnt_cons, cnt_cons]
    omega
theorem cross_one : ∀ (b : List Nat) (y : Nat) (c : List Nat), cross b (y :: c) = gt y b + cross b c
  | [], _, _ => rfl
  | z :: b, y, c => by
    show cnt z (y :: c) + cross b (y :: c) = gt y (z :: b) + (cnt z c + cross b c)
    rw [cross_one b y c, cnt_cons, gt_cons]
    omega
theorem cnt_gt {x : Nat} : ∀ {b : List Nat}, x ∉ b → cnt x b + gt x b = b.length
  | [], _ => rfl
  | z :: b, h => by
    have ih := cnt_gt (x := x) (b := b) (fun m => h (List.mem_cons_of_mem _ m))
    have hz : z ≠ x := fun e => h (by rw [e]; exact List.mem_cons_self)
    rw [cnt_cons, gt_cons, List.length_cons]
    by_cases c : z < x
    · rw [if_pos c, if_neg (by omega)]; omega
    · rw [if_neg c, if_pos (by omega)]; omega
/-- two entries change places: the number of crossings changes its evenness -/
theorem inv_swap {x y : Nat} {a b c : List Nat} (hx : x ∉ b) (hy : y ∉ b) (hxy : x ≠ y) : (inv (a ++ x :: (b ++ y :: c)) + 1) % 2 = inv (a ++ y :: (b ++ x :: c)) % 2 := by
  rw [inv_app, inv_app, cross_swap]
  have e : ∀ x y, inv (x :: (b ++ y :: c)) = cnt x b + (if y < x then 1 else 0) + cnt x c + (inv b + cnt y c + inv c + gt y b + cross b c) := fun x y => by
    show cnt x (b ++ y :: c) + inv (b ++ y :: c) = _
    rw [inv_app, cnt_app, cnt_cons, cross_one]
    show _ + (_ + (cnt y c + inv c) + _) = _
    omega
  rw [e x y, e y x]
  have h1 := cnt_gt hx
  have h2 := cnt_gt hy
  by_cases c1 : y < x
  · rw [if_pos c1, if_neg (by omega)]; omega
  · rw [if_neg c1, if_pos (by omega)]; omega
/-! how many circles: the places that are least in theirs -/
section
variable {p : List Nat}
def low (p : List Nat) (x : Nat) : Bool := (orb p x).all fun y => decide (x ≤ y)
theorem low_iff {x : Nat} : low p x = true ↔ ∀ y ∈ orb p x, x ≤ y := by unfold low; simp
theorem orb_sym (s : Sh p) {x y : Nat} (hx : x < p.length) (h : y ∈ orb p x) : x ∈ orb p y := orb_meet s (orb_lt s hx h) hx (orb_self s (orb_lt s hx h)) h
theorem rows_count (s : Sh p) : ∀ k, k ≤ p.length → (rowsK p k).length = ((List.range k).filter (low p)).length
  | 0, _ => rfl
  | k + 1, hk => by
    have ih := rows_count s k (by omega)
    have R := rows_ok s k (by omega)
    rw [rows_succ, List.range_succ, List.filter_append, List.length_append, ← ih]
    unfold addRow
    by_cases m : k ∈ (rowsK p k).flatten
    · rw [if_pos m]
      obtain ⟨l, hl, hm⟩ := List.mem_flatten.mp m
      obtain ⟨c, hc, rfl⟩ := R.orbs l hl
      have : low p k = false := by
        cases z : low p k with
        | false => rfl
        | true =>
          have := low_iff.mp z c (orb_sym s (by omega) hm)
          omega
      simp [this]
    · rw [if_neg m]
      have : low p k = true := low_iff.mpr fun y hy => by
        refine Nat.le_of_not_lt fun lt => m ?_
        have hy2 := R.all y lt
        obtain ⟨l, hl, hm⟩ := List.mem_flatten.mp hy2
        obtain ⟨c, hc, rfl⟩ := R.orbs l hl
        exact List.mem_flatten.mpr ⟨_, hl, orb_meet s (by omega) (by omega) hm hy⟩
      simp [this]
end
end Ci

namespace Ci
open Pu
theorem get_two {x y : Nat} {a b c : List Nat} {z : Nat} : (a ++ x :: (b ++ y :: c))[z]? = if z < a.length then a[z]? else if z = a.length then some x else if z < a.length + 1 + b.length then b[z - a.length - 1]? else if z = a.length + 1 + b.length then some y else c[z - a.length - b.length - 2]? := by
  rw [List.getElem?_append]
  by_cases h1 : z < a.length
  · rw [if_pos h1, if_pos h1]
  · rw [if_neg h1, if_neg h1, List.getElem?_cons]
    by_cases h2 : z = a.length
    · rw [if_pos (by omega), if_pos h2]
    · rw [if_neg (by omega), if_neg h2, List.getElem?_append]
      by_cases h3 : z < a.length + 1 + b.length
      · rw [if_pos (by omega), if_pos h3]
      · rw [if_neg (by omega), if_neg h3, List.getElem?_cons]
        by_cases h4 : z = a.length + 1 + b.length
        · rw [if_pos (by omega), if_pos h4]
        · rw [if_neg (by omega), if_neg h4]
          congr 1
          omega
theorem split_two {p : List Nat} {i j x y : Nat} (hij : i < j) (hx : p[i]? = some x) (hy : p[j]? = some y) : ∃ a b c, p = a ++ x :: (b ++ y :: c) ∧ a.length = i ∧ a.length + 1 + b.length = j := by
  obtain ⟨hj, ey⟩ := List.getElem?_eq_some_iff.mp hy
  obtain ⟨hi, ex⟩ := List.getElem?_eq_some_iff.mp hx
  refine ⟨p.take i, (p.drop (i + 1)).take (j - i - 1), p.drop (j + 1), ?_, by rw [List.length_take]; omega, by rw [List.length_take, List.length_take, List.length_drop]; omega⟩
  have e1 : p = p.take i ++ p.drop i := (List.take_append_drop i p).symm
  have e2 : p.drop i = x :: p.drop (i + 1) := by rw [List.drop_eq_getElem_cons hi, ex]
  have e3 : p.drop (i + 1) = (p.drop (i + 1)).take (j - i - 1) ++ (p.drop (i + 1)).drop (j - i - 1) := (List.take_append_drop _ _).symm
  have e4 : (p.drop (i + 1)).drop (j - i - 1) = y :: p.drop (j + 1) := by rw [List.drop_drop, show i + 1 + (j - i - 1) = j by omega, List.drop_eq_getElem_cons hj, ey]
  conv => lhs; rw [e1, e2, e3, e4]
theorem filter_plus {P : Nat → Bool} {j : Nat} : ∀ {l : List Nat}, l.Nodup → j ∈ l → P j = false → (l.filter fun x => P x || x == j).length = (l.filter P).length + 1
  | [], _, h, _ => by simp at h
  | x :: l, nd, h, hp => by
    rw [List.nodup_cons] at nd
    by_cases e : x = j
    · subst e
      have : l.filter (fun y => P y || y == x) = l.filter P := List.filter_congr fun y hy => by
        have : y ≠ x := fun z => nd.1 (z ▸ hy)
        simp [this]
      simp [hp, this]
    · have hm : j ∈ l := by
        rcases List.mem_cons.mp h with z | z
        · exact absurd z.symm e
        · exact z
      have ih := filter_plus (P := P) nd.2 hm hp
      cases hx : P x <;> simp [hx, e, ih]
section
variable {p : List Nat}
theorem it_fix {x : Nat} (h : ev p x = x) : ∀ k, it p k x = x
  | 0 => rfl
  | k + 1 => by show ev p (it p k x) = x; rw [it_fix h k, h]
theorem low_fix (s : Sh p) {x : Nat} (hx : x < p.length) (h : ev p x = x) : low p x = true := low_iff.mpr fun y hy => by
  obtain ⟨k, rfl⟩ := (mem_orb s hx).mp hy
  rw [it_fix h k]
  exact Nat.le_refl _
/-- one place is taken out of its circle -/
structure Out1 (p q : List Nat) (i j : Nat) : Prop where
  len : q.length = p.length
  hi : i < j
  hj : j < p.length
  ij : ev p i = j
  qi : ev q i = ev p j
  qj : ev q j = j
  qo : ∀ x, x ≠ i → x ≠ j → ev q x = ev p x
theorem out_step {q : List Nat} {i j : Nat} (s : Sh p) (o : Out1 p q i j) {y : Nat} (hy : y < p.length) (ny : y ≠ j) : ev q y ≠ j := fun e => by
  have hi : i < p.length := Nat.lt_trans o.hi o.hj
  by_cases z : y = i
  · rw [z, o.qi] at e
    have := ev_inj s o.hj hi (e.trans o.ij.symm)
    have := o.hi
    omega
  · rw [o.qo y z ny] at e
    exact z (ev_inj s hy hi (e.trans o.ij.symm))
theorem out_in {q : List Nat} {i j : Nat} (s : Sh p) (sq : Sh q) (o : Out1 p q i j) {x : Nat} (hx : x < p.length) (nx : x ≠ j) : ∀ k, it q k x ∈ orb p x ∧ it q k x ≠ j
  | 0 => ⟨orb_self s hx, nx⟩
  | k + 1 => by
    obtain ⟨h1, h2⟩ := out_in s sq o hx nx k
    have hy := orb_lt s hx h1
    refine ⟨?_, out_step s o hy h2⟩
    obtain ⟨m, hm⟩ := (mem_orb s hx).mp h1
    show ev q (it q k x) ∈ orb p x
    by_cases z : it q k x = i
    · rw [z, o.qi, ← o.ij]
      rw [z] at hm
      exact (mem_orb s hx).mpr ⟨m + 2, by show _ = ev p (ev p (it p m x)); rw [← hm]⟩
    · rw [o.qo _ z h2, hm]
      exact (mem_orb s hx).mpr ⟨m + 1, rfl⟩
theorem out_of {q : List Nat} {i j : Nat} (s : Sh p) (sq : Sh q) (o : Out1 p q i j) {x : Nat} (hx : x < p.length) (nx : x ≠ j) : ∀ k, (it p k x ≠ j → it p k x ∈ orb q x) ∧ (it p k x = j → i ∈ orb q x)
  | 0 => ⟨fun _ => orb_self sq (by rw [o.len]; exact hx), fun e => absurd e nx⟩
  | k + 1 => by
    have hq : x < q.length := by rw [o.len]; exact hx
    have hi : i < p.length := Nat.lt_trans o.hi o.hj
    have nxt : ∀ y, y ∈ orb q x → ev q y ∈ orb q x := fun y hy => by
      obtain ⟨m, rfl⟩ := (mem_orb sq hq).mp hy
      exact (mem_orb sq hq).mpr ⟨m + 1, rfl⟩
    obtain ⟨h1, h2⟩ := out_of s sq o hx nx k
    show (ev p (it p k x) ≠ j → ev p (it p k x) ∈ orb q x) ∧ (ev p (it p k x) = j → i ∈ orb q x)
    by_cases c : it p k x = j
    · rw [c]
      have hio := h2 c
      refine ⟨fun _ => ?_, fun _ => hio⟩
      rw [← o.qi]
      exact nxt i hio
    · have hy := h1 c
      by_cases z : it p k x = i
      · rw [z] at hy ⊢
        exact ⟨fun n => absurd o.ij n, fun _ => hy⟩
      · refine ⟨fun _ => ?_, fun e => absurd (ev_inj s (it_lt s hx k) hi (e.trans o.ij.symm)) z⟩
        rw [← o.qo _ z c]
        exact nxt _ hy
theorem out_low {q : List Nat} {i j : Nat} (s : Sh p) (sq : Sh q) (o : Out1 p q i j) {x : Nat} (hx : x < p.length) : low q x = (low p x || x == j) := by
  have hi : i < p.length := Nat.lt_trans o.hi o.hj
  have hq : x < q.length := by rw [o.len]; exact hx
  by_cases c : x = j
  · subst c
    rw [low_fix sq hq o.qj]
    simp
  · have e : (low p x || x == j) = low p x := by simp [c]
    rw [e, Bool.eq_iff_iff, low_iff, low_iff]
    constructor
    · intro h y hy
      obtain ⟨k, rfl⟩ := (mem_orb s hx).mp hy
      obtain ⟨h1, h2⟩ := out_of s sq o hx c k
      by_cases z : it p k x = j
      · have := h i (h2 z)
        have := o.hi
        omega
      · exact h _ (h1 z)
    · intro h y hy
      obtain ⟨k, rfl⟩ := (mem_orb sq hq).mp hy
      exact h _ (out_in s sq o hx c k).1
theorem out_count {q : List Nat} {i j : Nat} (s : Sh p) (sq : Sh q) (o : Out1 p q i j) : (circ q).length = (circ p).length + 1 := by
  have hi : i < p.length := Nat.lt_trans o.hi o.hj
  have lj : low p j = false := by
    cases z : low p j with
    | false => rfl
    | true =>
      have hij : j ∈ orb p i := (mem_orb s hi).mpr ⟨1, o.ij.symm⟩
      have := low_iff.mp z i (orb_sym s hi hij)
      have := o.hi
      omega
  unfold circ
  rw [rows_count sq _ (Nat.le_refl _), rows_count s _ (Nat.le_refl _), o.len, ← filter_plus List.nodup_range (List.mem_range.mpr o.hj) lj]
  congr 1
  exact List.filter_congr fun x hx => out_low s sq o (List.mem_range.mp hx)
end
end Ci

namespace Ci
open Pu
def nf (p : List Nat) : Nat := ((List.range p.length).filter fun x => ev p x != x).length
theorem inv_asc : ∀ {l : List Nat}, l.Pairwise (· < ·) → inv l = 0
  | [], _ => rfl
  | x :: l, h => by
    rw [List.pairwise_cons] at h
    show cnt x l + inv l = 0
    rw [inv_asc h.2]
    have : l.filter (fun y => decide (y < x)) = [] := List.filter_eq_nil_iff.mpr fun y hy => by
      have := h.1 y hy
      simp
      omega
    unfold cnt
    rw [this]
    rfl
theorem ev_of {p : List Nat} {x y : Nat} (h : p[x]? = some y) : ev p x = y := by
  unfold ev
  rw [List.getD_eq_getElem?_getD, h]
  rfl
theorem ev_cong {p q : List Nat} {x : Nat} (h : q[x]? = p[x]?) : ev q x = ev p x := by
  unfold ev
  rw [List.getD_eq_getElem?_getD, List.getD_eq_getElem?_getD, h]
theorem all_fix {p : List Nat} (h : ∀ x, x < p.length → ev p x = x) : p = List.range p.length := by
  apply List.ext_getElem?
  intro i
  by_cases hi : i < p.length
  · rw [ev_get hi, List.getElem?_range hi, h i hi]
  · rw [List.getElem?_eq_none (by omega), List.getElem?_eq_none (by simpa using hi)]
/-- the step: a place is taken out, one crossing's evenness, one circle more -/
theorem out_make {p : List Nat} {i : Nat} (s : Sh p) (hi : i < p.length) (ne : ev p i ≠ i) (lo : ∀ x, x < i → ev p x = x) : ∃ q, Sh q ∧ Out1 p q i (ev p i) ∧ (inv p + 1) % 2 = inv q % 2 := by
  have hj := ev_lt s hi
  have hij : i < ev p i := by
    rcases Nat.lt_trichotomy (ev p i) i with z | z | z
    · exact absurd (ev_inj s hj hi (lo _ z)) ne
    · exact absurd z ne
    · exact z
  have hk : ev p (ev p i) ≠ ev p i := fun e => ne (ev_inj s hj hi e)
  obtain ⟨a, b, c, e, la, lb⟩ := split_two hij (ev_get hi) (ev_get hj)
  have nd := s.nd
  rw [e] at nd
  have hp : (a ++ ev p i :: (b ++ ev p (ev p i) :: c)).Perm (a ++ ev p (ev p i) :: (b ++ ev p i :: c)) := by
    refine List.Perm.append_left a ?_
    have h1 : (ev p i :: (b ++ ev p (ev p i) :: c)).Perm (ev p i :: ev p (ev p i) :: (b ++ c)) := List.Perm.cons _ List.perm_middle
    have h2 : (ev p (ev p i) :: (b ++ ev p i :: c)).Perm (ev p (ev p i) :: ev p i :: (b ++ c)) := List.Perm.cons _ List.perm_middle
    exact h1.trans ((List.Perm.swap _ _ _).trans h2.symm)
  have lq : (a ++ ev p (ev p i) :: (b ++ ev p i :: c)).length = p.length := by rw [← hp.length_eq, ← e]
  have get : ∀ z, (a ++ ev p (ev p i) :: (b ++ ev p i :: c))[z]? = if z = i then some (ev p (ev p i)) else if z = ev p i then some (ev p i) else p[z]? := fun z => by
    have e2 : p[z]? = (a ++ ev p i :: (b ++ ev p (ev p i) :: c))[z]? := congrArg (fun l => l[z]?) e
    rw [e2, get_two, get_two]
    by_cases c1 : z = i
    · rw [if_neg (by omega), if_pos (by omega), if_pos c1]
    · rw [if_neg c1]
      by_cases c2 : z = ev p i
      · rw [if_pos c2, if_neg (by omega), if_neg (by omega), if_neg (by omega), if_pos (by omega)]
      · rw [if_neg c2]
        by_cases c3 : z < a.length
        · rw [if_pos c3, if_pos c3]
        · have d1 : ¬ z = a.length := by omega
          have d2 : ¬ z = a.length + 1 + b.length := by omega
          rw [if_neg c3, if_neg c3, if_neg d1, if_neg d1]
          by_cases c4 : z < a.length + 1 + b.length
          · rw [if_pos c4, if_pos c4]
          · rw [if_neg c4, if_neg c4, if_neg d2, if_neg d2]
  refine ⟨a ++ ev p (ev p i) :: (b ++ ev p i :: c), ⟨hp.nodup_iff.mp nd, fun x hx => ?_⟩, ⟨lq, hij, hj, rfl, ?_, ?_, fun x h1 h2 => ?_⟩, ?_⟩
  · rw [lq]
    refine s.lt x ?_
    have := hp.mem_iff.mpr hx
    rw [← e] at this
    exact this
  · exact ev_of (by rw [get, if_pos rfl])
  · exact ev_of (by rw [get, if_neg (by omega), if_pos rfl])
  · exact ev_cong (by rw [get, if_neg h1, if_neg h2])
  · have nd2 := (List.nodup_append.mp nd).2.1
    rw [List.nodup_cons] at nd2
    obtain ⟨n1, n2⟩ := nd2
    have n3 := List.nodup_append.mp n2
    have := inv_swap (a := a) (b := b) (c := c) (x := ev p i) (y := ev p (ev p i)) (fun m => n1 (List.mem_append_left _ m)) (fun m => n3.2.2 _ m _ List.mem_cons_self rfl) (Ne.symm hk)
    rw [← e] at this
    exact this
theorem parity : ∀ (m : Nat) (p : List Nat), nf p ≤ m → Sh p → inv p % 2 = (p.length - (circ p).length) % 2 := by
  intro m
  induction m with
  | zero =>
    intro p hm s
    have fx : ∀ x, x < p.length → ev p x = x := fun x hx => by
      refine Classical.byContradiction fun n => ?_
      have : x ∈ (List.range p.length).filter fun x => ev p x != x := List.mem_filter.mpr ⟨List.mem_range.mpr hx, by simpa using n⟩
      have := List.length_pos_of_mem this
      unfold nf at hm
      omega
    have e : inv p = 0 := by
      rw [all_fix fx]
      exact inv_asc List.pairwise_lt_range
    have c : (circ p).length = p.length := by
      unfold circ
      rw [rows_count s _ (Nat.le_refl _)]
      have : (List.range p.length).filter (low p) = List.range p.length := List.filter_eq_self.mpr fun x hx => low_fix s (List.mem_range.mp hx) (fx x (List.mem_range.mp hx))
      rw [this, List.length_range]
    rw [e, c]
    simp
  | succ m ih =>
    intro p hm s
    cases hf : (List.range p.length).find? fun x => ev p x != x with
    | none =>
      refine ih p ?_ s
      have : (List.range p.length).filter (fun x => ev p x != x) = [] := List.filter_eq_nil_iff.mpr (List.find?_eq_none.mp hf)
      unfold nf
      rw [this]
      simp
    | some i =>
      obtain ⟨h1, h2, h3⟩ := List.find?_range_eq_some.mp hf
      have hi := List.mem_range.mp h2
      have ne : ev p i ≠ i := by simpa using h1
      obtain ⟨q, sq, o, hs⟩ := out_make s hi ne (fun x hx => by simpa using h3 x hx)
      have lt : nf q < nf p := by
        unfold nf
        rw [o.len]
        have hfp := filter_plus (P := fun x => ev q x != x) (j := ev p i) List.nodup_range (List.mem_range.mpr o.hj) (by simp [o.qj])
        have mono : ((List.range p.length).filter fun x => (ev q x != x) || x == ev p i).length ≤ ((List.range p.length).filter fun x => ev p x != x).length := by
          rw [← List.countP_eq_length_filter, ← List.countP_eq_length_filter]
          refine List.countP_mono_left fun x hx hq => ?_
          have hx := List.mem_range.mp hx
          by_cases c1 : x = ev p i
          · subst c1
            have : ev p (ev p i) ≠ ev p i := fun e => ne (ev_inj s o.hj hi e)
            simpa using this
          · by_cases c2 : x = i
            · subst c2; simpa using ne
            · rw [o.qo x c2 c1] at hq
              simpa [c1] using hq
        omega
      have r := ih q (by omega) sq
      have cc := out_count s sq o
      have cl := circ_len (p := q)
      rw [o.len] at r cl
      omega
theorem circ_sum {p : List Nat} (s : Sh p) : (lens (circ p)).sum = p.length := by
  have R := rows_ok s p.length (by omega)
  have e : (lens (circ p)).sum = (circ p).flatten.length := by rw [List.length_flatten]; rfl
  rw [e]
  have : (circ p).flatten.Perm (List.range p.length) := (List.perm_ext_iff_of_nodup R.nd List.nodup_range).mpr fun x => by
    rw [List.mem_range]
    exact ⟨fun h => R.lt s (Nat.le_refl _) x h, fun h => R.all x h⟩
  rw [this.length_eq, List.length_range]
theorem sum_less : ∀ (l : List Nat), (∀ x ∈ l, 0 < x) → (l.map (· - 1)).sum + l.length = l.sum
  | [], _ => rfl
  | x :: l, h => by
    have := sum_less l fun y hy => h y (List.mem_cons_of_mem _ hy)
    have := h x List.mem_cons_self
    simp
    omega
/-- the evenness of the crossings is that of the circles -/
theorem even_circ {p : List Nat} (s : Sh p) : inv p % 2 = ((lens (circ p)).map (· - 1)).sum % 2 := by
  rw [parity _ p (Nat.le_refl _) s]
  have h1 := circ_sum s
  have h2 := sum_less (lens (circ p)) fun x hx => (lens_ok s x hx).1
  have h3 : (lens (circ p)).length = (circ p).length := by simp [lens]
  congr 1
  omega
end Ci

namespace Pu
open PySem Dn Lr L2 Ci
/-! comprehensions over a list of places -/
theorem comp_tn {i : Nat} {it : DI} {e : DE} {env : Dn.Env} (xs : List Nat) (f : Nat → Nat) (hit : it env = .ok (tn xs) env) (hi : i < env.length) (hl : xs.length ≤ 100000)
    (h : ∀ x ∈ xs, e (env.set i (some (.int (x : Nat)))) = .ok (.val (.int (f x : Nat))) (env.set i (some (.int (x : Nat))))) : dComp [i] it (gN i) dYes e env = .ok (.val (.lst (tn (xs.map f)))) env := by
  have hc := comp_pure (i := i) (it := it) (t := dYes) (e := e) (env := env) (tn xs) (fun _ => true) (fun d => match d with | .int z => .int (f z.toNat : Nat) | _ => .non) hit hi (by simp; omega) (fun y hy => by
    obtain ⟨x, hx, rfl⟩ := List.mem_map.mp hy
    refine ⟨rfl, fun _ => ?_⟩
    rw [h x hx]
    simp)
  have ef : (((tn xs).filter fun _ => true).map fun d => match d with | .int z => D.int (f z.toNat : Nat) | _ => .non) = tn (xs.map f) := by
    rw [show (tn xs).filter (fun _ => true) = tn xs from by simp]
    unfold tn
    rw [List.map_map, List.map_map]
    apply List.map_congr_left
    intro x _
    simp
  rw [ef] at hc
  exact hc
/-! both -/
theorem both_by_ok {p q : List Nat} (hp : p.length ≤ 1000) (h : ∀ x ∈ p, x < q.length) : d_both_by [.tup (tn p), .tup (tn q)] = .ok (.tup (tn (p.map (ev q)))) .non := by
  have hc := comp_tn (i := 2) (it := iAny (dVar 0)) (e := dOp gIx (dVar 1) (dVar 2)) (env := [some (.tup (tn p)), some (.tup (tn q)), none]) p (ev q) rfl (by simp) (by omega) (fun x hx => by
    have ha : atI (tn q) (x : Nat) = some (.int (ev q x : Nat)) := by rw [atI_n, tn_get, ev_get (h x hx)]; rfl
    simp only [dOp, dVar, List.set_cons_succ, List.set_cons_zero, look0, lookS, rd_val, gIx_t, ha])
  show runF 3 false b_both_by _ = _
  unfold b_both_by
  generalize (dComp [2] _ _ _ _) = C at hc ⊢
  simp [runF, sRet, dFn, aCons, aNil, hc, rds, outOf]
theorem both_ok {p q : List Nat} (sp : Sh p) (sq : Sh q) (hp : p.length ≤ 60) (hpq : p.length = q.length) : d_both [.tup (tn p), .tup (tn q)] = .ok (.tup (tn (p.map (ev q)))) .non := by
  have h1 := check_ok sp hp
  have h2 := check_ok sq (by omega)
  have h3 := both_by_ok (p := p) (q := q) (by omega) (fun x hx => by have := sp.lt x hx; omega)
  have h4 : gNe (.int (p.length : Nat)) (.int (q.length : Nat)) = some (.bl false) := by rw [hpq]; simp
  simp [d_both, b_both, runF, sSeq, sExpr, dCall, aCons, aNil, dVar, clean, h1, h2, sIf, sNil, dTest, dOp, dFn, rds, h4, sRet, h3, outOf]
theorem both_unlike {p q : List Nat} (sp : Sh p) (sq : Sh q) (hp : p.length ≤ 60) (hq : q.length ≤ 60) (hpq : p.length ≠ q.length) : d_both [.tup (tn p), .tup (tn q)] = .ex ⟨1, none⟩ .non := by
  have h1 := check_ok sp hp
  have h2 := check_ok sq hq
  have h4 : ¬ ((p.length : Int) = (q.length : Int)) := by omega
  simp [d_both, b_both, runF, sSeq, sExpr, dCall, aCons, aNil, dVar, clean, h1, h2, sIf, sNil, dTest, dOp, dFn, rds, h4, outOf]
/-! is_even -/
theorem sum_cast : ∀ l : List Nat, (l.map fun x : Nat => (x : Int)).sum = (l.sum : Nat)
  | [] => rfl
  | x :: l => by simp [sum_cast l]
theorem bSum_ok {l : List Nat} : bSum [.lst (tn l)] = some (.int (l.sum : Nat)) := by
  unfold bSum
  simp only [unInts_tn, Option.map_some, sum_cast]
theorem less_comp {p : List Nat} (s : Sh p) (hp : p.length ≤ 1000) : dComp [1] (iAny (dCall d_circles_of (aCons (dVar 0) aNil))) (gN 1) dYes (dOp gSubt (dFn bLen (aCons (dVar 1) aNil)) (dC (.int 1))) [some (.tup (tn p)), none] = .ok (.val (.lst (tn ((lens (circ p)).map (· - 1))))) [some (.tup (tn p)), none] := by
  have hc := circles_of_ok s hp
  have cl := circ_len (p := p)
  have lo := lens_ok s
  have hi : iAny (dCall d_circles_of (aCons (dVar 0) aNil)) [some (.tup (tn p)), none] = .ok (trow (circ p)) [some (.tup (tn p)), none] := by
    simp only [iAny, dCall, aCons, aNil, dVar, look0, clean, Option.map_some, hc]
  have h := comp_pure (i := 1) (it := iAny (dCall d_circles_of (aCons (dVar 0) aNil))) (t := dYes) (e := dOp gSubt (dFn bLen (aCons (dVar 1) aNil)) (dC (.int 1))) (env := [some (.tup (tn p)), none]) (trow (circ p)) (fun _ => true) (fun d => match d with | .tup xs => .int ((xs.length : Int) - 1) | _ => .non) hi (by simp) (by simp [trow]; omega) (fun y hy => by
    obtain ⟨r, _, rfl⟩ := List.mem_map.mp hy
    refine ⟨rfl, fun _ => ?_⟩
    simp only [dOp, dFn, aCons, aNil, dVar, dC, List.set_cons_succ, List.set_cons_zero, look0, lookS, rds, rd_val, bLen_t, gSubt_i])
  have ef : (((trow (circ p)).filter fun _ => true).map fun d => match d with | .tup xs => D.int ((xs.length : Int) - 1) | _ => .non) = tn ((lens (circ p)).map (· - 1)) := by
    rw [show (trow (circ p)).filter (fun _ => true) = trow (circ p) from by simp]
    unfold trow tn lens
    rw [List.map_map, List.map_map, List.map_map]
    apply List.map_congr_left
    intro r hr
    have := lo r.length (List.mem_map.mpr ⟨r, hr, rfl⟩)
    have e : ((tn r).length : Int) - 1 = ((r.length - 1 : Nat) : Int) := by rw [tn_len]; omega
    show D.int (((tn r).length : Int) - 1) = _
    rw [e]
    rfl
  rw [ef] at h
  exact h
theorem is_even_ok {p : List Nat} (s : Sh p) (hp : p.length ≤ 60) : d_is_even [.tup (tn p)] = .ok (.bl (decide (inv p % 2 = 0))) .non := by
  have h1 := check_ok s hp
  have h2 := less_comp s (by omega)
  have h3 := bSum_ok (l := (lens (circ p)).map (· - 1))
  have h4 := gMod_i (a := (((lens (circ p)).map (· - 1)).sum : Nat)) (show (0 : Int) < 2 by decide)
  have e : ((((lens (circ p)).map (· - 1)).sum : Nat) : Int) % 2 = ((inv p % 2 : Nat) : Int) := by rw [even_circ s]; omega
  rw [e] at h4
  have e2 : decide (((inv p % 2 : Nat) : Int) = 0) = decide (inv p % 2 = 0) := by
    by_cases c : inv p % 2 = 0
    · simp [c]
    · have : ¬ ((inv p % 2 : Nat) : Int) = 0 := by omega
      simp [this, c]
      omega
  show runF 2 false b_is_even _ = _
  unfold b_is_even
  generalize (dComp [1] _ _ _ _) = C at h2 ⊢
  simp only [runF, List.map_cons, List.map_nil, List.length_cons, List.length_nil, List.cons_append, List.nil_append, show List.replicate (2 - (0 + 1)) (none : Option D) = [none] from rfl, sSeq, sExpr, dCall, aCons, aNil, dVar, look0, clean, Option.map_some, h1, sRet, dOp, dFn, h2, rds, rd_val, h3, dC, h4, gEq_i, e2, outOf]
end Pu

/-! primes and tables of greatest rounds, plain -/
namespace Np
def Isp (m : Nat) : Prop := 2 ≤ m ∧ ∀ k, 2 ≤ k → k < m → m % k ≠ 0
theorem least_div {m : Nat} (h : 2 ≤ m) : ∃ k, Isp k ∧ m % k = 0 ∧ (k = m ∨ k * k ≤ m) := by
  have key : ∀ n k, n = m - k → 2 ≤ k → k ≤ m → (∀ j, 2 ≤ j → j < k → m % j ≠ 0) → ∃ k, 2 ≤ k ∧ m % k = 0 ∧ ∀ j, 2 ≤ j → j < k → m % j ≠ 0 := by
    intro n
    induction n with
    | zero => intro k hn h2 hk hj; have : k = m := by omega
              subst this; exact ⟨k, h2, Nat.mod_self k, hj⟩
    | succ n ih =>
      intro k hn h2 hk hj
      by_cases hd : m % k = 0
      · exact ⟨k, h2, hd, hj⟩
      · refine ih (k + 1) (by omega) (by omega) (by omega) fun j h1 h2 => ?_
        by_cases hjk : j = k
        · subst hjk; exact hd
        · exact hj j h1 (by omega)
  obtain ⟨k, k2, kd, kl⟩ := key (m - 2) 2 (by omega) (by omega) h (by omega)
  have hkm : k ∣ m := Nat.dvd_of_mod_eq_zero kd
  refine ⟨k, ⟨k2, fun j h1 h2 h3 => ?_⟩, kd, ?_⟩
  · exact kl j h1 h2 (Nat.mod_eq_zero_of_dvd (Nat.dvd_trans (Nat.dvd_of_mod_eq_zero h3) hkm))
  · obtain ⟨c, hc⟩ := hkm
    by_cases h1 : c = 1
    · left; rw [hc, h1, Nat.mul_one]
    · right
      have c0 : c ≠ 0 := by intro hz; rw [hz] at hc; omega
      by_cases hck : c < k
      · exact absurd (Nat.mod_eq_zero_of_dvd ⟨k, by rw [hc, Nat.mul_comm]⟩) (kl c (by omega) hck)
      · rw [hc]; exact Nat.mul_le_mul_left k (by omega)
theorem isp_div {p k : Nat} (h : Isp p) (hk : k ∣ p) : k = 1 ∨ k = p := by
  have p2 := h.1
  have : k ≤ p := Nat.le_of_dvd (by omega) hk
  by_cases h0 : k = 0
  · subst h0; have := Nat.eq_zero_of_zero_dvd hk; omega
  · by_cases h1 : k = 1
    · exact .inl h1
    · by_cases h2 : k = p
      · exact .inr h2
      · exact absurd (Nat.mod_eq_zero_of_dvd hk) (h.2 k (by omega) (by omega))
theorem isp_cop {p q : Nat} (hp : Isp p) (hq : Isp q) (h : p ≠ q) : Nat.Coprime p q := by
  unfold Nat.Coprime
  rcases isp_div hp (Nat.gcd_dvd_left p q) with h1 | h1
  · exact h1
  · have := Nat.gcd_dvd_right p q
    rw [h1] at this
    rcases isp_div hq this with h2 | h2
    · have := hp.1; omega
    · exact absurd h2 h
/-! the sieve -/
/-- crossed out by the primes under m -/
def Cro (m x : Nat) : Prop := ∃ k, Isp k ∧ k < m ∧ k * k ≤ x ∧ x % k = 0
theorem cro_at {m : Nat} (h : 2 ≤ m) : ¬ Cro m m ↔ Isp m := by
  constructor
  · intro hn
    obtain ⟨k, h1, h2, h3⟩ := least_div h
    rcases h3 with rfl | h3
    · exact h1
    · have : k < m := by
        have := h1.1
        have : k * 2 ≤ k * k := Nat.mul_le_mul_left k this
        omega
      exact absurd ⟨k, h1, this, h3, h2⟩ hn
  · rintro hp ⟨k, h1, h2, h3, h4⟩
    exact hp.2 k h1.1 h2 h4
theorem cro_succ {m x : Nat} : Cro (m + 1) x ↔ Cro m x ∨ (Isp m ∧ m * m ≤ x ∧ x % m = 0) := by
  constructor
  · rintro ⟨k, h1, h2, h3, h4⟩
    by_cases h : k = m
    · subst h; exact .inr ⟨h1, h3, h4⟩
    · exact .inl ⟨k, h1, by omega, h3, h4⟩
  · rintro (⟨k, h1, h2, h3, h4⟩ | ⟨h1, h3, h4⟩)
    · exact ⟨k, h1, by omega, h3, h4⟩
    · exact ⟨m, h1, by omega, h3, h4⟩
def isp (m : Nat) : Bool := decide (2 ≤ m) && (List.range m).all fun k => decide (k < 2) || decide (m % k ≠ 0)
theorem isp_iff {m : Nat} : isp m = true ↔ Isp m := by
  unfold isp Isp
  simp only [Bool.and_eq_true, decide_eq_true_eq, List.all_eq_true, List.mem_range, Bool.or_eq_true]
  constructor
  · rintro ⟨h1, h2⟩
    exact ⟨h1, fun k a b => (h2 k b).resolve_left (by omega)⟩
  · rintro ⟨h1, h2⟩
    exact ⟨h1, fun k b => if a : k < 2 then .inl a else .inr (h2 k (by omega) b)⟩
/-- the primes up to n -/
def prs (n : Nat) : List Nat := (List.range (n + 1)).filter isp
theorem prs_mem {n p : Nat} : p ∈ prs n ↔ p ≤ n ∧ Isp p := by
  unfold prs
  rw [List.mem_filter, List.mem_range, isp_iff, Nat.lt_succ_iff]
/-! tables -/
/-- the best at m with at most e powers of p tried -/
def upE (p : Nat) (b : Nat → Nat) (m : Nat) : Nat → Nat
  | 0 => b m
  | e + 1 => if p ^ (e + 1) ≤ m then max (upE p b m e) (b (m - p ^ (e + 1)) * p ^ (e + 1)) else upE p b m e
def up (b : Nat → Nat) (p : Nat) : Nat → Nat := fun m => upE p b m 12
def tab (ps : List Nat) : Nat → Nat := ps.foldl up fun _ => 1
theorem upE_big {p m e : Nat} {b : Nat → Nat} (h1 : 2 ≤ p) (h : m < p) : upE p b m e = b m := by
  induction e with
  | zero => rfl
  | succ e ih =>
    unfold upE
    have : p ^ 1 ≤ p ^ (e + 1) := Nat.pow_le_pow_right (by omega) (by omega)
    rw [if_neg (by rw [Nat.pow_one] at this; omega), ih]
theorem upE_stay {p m e : Nat} {b : Nat → Nat} (h1 : 1 ≤ p) (h : m < p ^ (e + 1)) : ∀ k, upE p b m (e + k) = upE p b m e
  | 0 => rfl
  | k + 1 => by
    show upE p b m ((e + k) + 1) = _
    unfold upE
    have : p ^ (e + 1) ≤ p ^ (e + k + 1) := Nat.pow_le_pow_right (by omega) (by omega)
    rw [if_neg (by omega), upE_stay h1 h k]
    cases e with
    | zero => rfl
    | succ e => rw [upE]
theorem tab_more {m : Nat} : ∀ (qs : List Nat) (b : Nat → Nat), (∀ q ∈ qs, 2 ≤ q ∧ m < q) → qs.foldl up b m = b m
  | [], _, _ => rfl
  | q :: qs, b, h => by
    have := h q (List.mem_cons_self ..)
    rw [List.foldl_cons, tab_more qs _ (fun x hx => h x (List.mem_cons_of_mem _ hx))]
    exact upE_big this.1 this.2
theorem prs_add (n : Nat) : ∀ k, ∃ qs, prs (n + k) = prs n ++ qs ∧ ∀ q ∈ qs, 2 ≤ q ∧ n < q
  | 0 => ⟨[], by simp, by simp⟩
  | k + 1 => by
    obtain ⟨qs, h1, h2⟩ := prs_add n k
    have e : prs (n + (k + 1)) = prs (n + k) ++ (if isp (n + k + 1) then [n + k + 1] else []) := by
      unfold prs
      rw [show n + (k + 1) + 1 = (n + k + 1) + 1 by omega, List.range_succ, List.filter_append]
      congr 1
      rw [List.filter_cons, List.filter_nil]
    refine ⟨qs ++ (if isp (n + k + 1) then [n + k + 1] else []), by rw [e, h1, List.append_assoc], fun q hq => ?_⟩
    rcases List.mem_append.mp hq with h | h
    · exact h2 q h
    · split at h
      · rename_i hi
        rw [List.mem_singleton] at h
        subst h
        exact ⟨(isp_iff.mp hi).1, by omega⟩
      · cases h
/-- the greatest round with m cards -/
def best (m : Nat) : Nat := tab (prs m) m
theorem tab_best {m n : Nat} (h : m ≤ n) : tab (prs n) m = best m := by
  obtain ⟨qs, h1, h2⟩ := prs_add m (n - m)
  rw [show m + (n - m) = n by omega] at h1
  unfold tab best
  rw [h1, List.foldl_append, tab_more qs _ h2]
  rfl
/-! what best is made of -/
inductive Lot (n : Nat) : Nat → Nat → Prop
  | one {b} : Lot n b 1
  | more {b v p e} : Lot n p v → Isp p → p < b → p ^ e ≤ n → Lot n b (v * p ^ e)
theorem Lot.up {n b c v : Nat} (h : Lot n b v) (hc : b ≤ c) : Lot n c v := by
  cases h with
  | one => exact .one
  | more h1 h2 h3 h4 => exact .more h1 h2 (by omega) h4
theorem lot_upE {n p m e : Nat} {b : Nat → Nat} (hp : Isp p) (hb : ∀ m, m ≤ n → Lot n p (b m)) (hm : m ≤ n) : Lot n (p + 1) (upE p b m e) := by
  induction e with
  | zero => exact (hb m hm).up (by omega)
  | succ e ih =>
    unfold upE
    split
    · rename_i hl
      rcases Nat.le_total (upE p b m e) (b (m - p ^ (e + 1)) * p ^ (e + 1)) with h | h
      · rw [Nat.max_eq_right h]
        exact .more (hb _ (by omega)) hp (by omega) (by omega)
      · rw [Nat.max_eq_left h]; exact ih
    · exact ih
theorem lot_tab {n : Nat} : ∀ k m, m ≤ n → Lot n (k + 1) (tab (prs k) m)
  | 0, m, _ => by
    have : prs 0 = [] := by decide
    rw [this]; exact .one
  | k + 1, m, hm => by
    have e : prs (k + 1) = prs k ++ (if isp (k + 1) then [k + 1] else []) := by
      unfold prs
      rw [List.range_succ (n := k + 1), List.filter_append]
      congr 1
      rw [List.filter_cons, List.filter_nil]
    rw [e]
    unfold tab
    split
    · rename_i hi
      rw [List.foldl_append]
      exact lot_upE (isp_iff.mp hi) (fun m' h => lot_tab k m' h) hm
    · rw [List.append_nil]; exact (lot_tab k m hm).up (by omega)
theorem cop_pow {p q : Nat} (h : Nat.Coprime p q) (i j : Nat) : Nat.Coprime (p ^ i) (q ^ j) := Nat.Coprime.pow i j h
theorem lot_small {n p b v : Nat} (hp : Isp p) (h : Lot n b v) : ∀ k, p ^ k ∣ v → (b ≤ p → k = 0) ∧ (k = 0 ∨ p ^ k ≤ n) := by
  induction h with
  | one => 
    intro k hk
    have : k = 0 := by
      cases k with
      | zero => rfl
      | succ k =>
        have := Nat.le_of_dvd (by omega) hk
        have h2 : p ^ 1 ≤ p ^ (k + 1) := Nat.pow_le_pow_right (by have := hp.1; omega) (by omega)
        have := hp.1
        rw [Nat.pow_one] at h2
        omega
    exact ⟨fun _ => this, .inl this⟩
  | @more b v q e h1 h2 h3 h4 ih =>
    intro k hk
    by_cases hq : p = q
    · subst hq
      refine ⟨fun h => by omega, ?_⟩
      have hv : Nat.Coprime (p ^ k) v := by
        cases k with
        | zero => simp [Nat.Coprime]
        | succ k =>
          refine Nat.Coprime.pow_left _ ?_
          unfold Nat.Coprime
          rcases isp_div hp (Nat.gcd_dvd_left p v) with g | g
          · exact g
          · have := Nat.gcd_dvd_right p v
            rw [g] at this
            have := (ih 1 (by rwa [Nat.pow_one])).1 (Nat.le_refl _)
            omega
      have := Nat.le_of_dvd (Nat.pow_pos (by have := hp.1; omega)) (Nat.Coprime.dvd_of_dvd_mul_left hv hk)
      exact .inr (by omega)
    · have hv := Nat.Coprime.dvd_of_dvd_mul_right (cop_pow (isp_cop hp h2 hq) k e) hk
      have := ih k hv
      exact ⟨fun h => this.1 (by omega), this.2⟩
theorem lot_best {n m : Nat} (h : m ≤ n) : Lot n (m + 1) (best m) := lot_tab m m h
end Np

/-! loops that keep step with a plain state -/
namespace Pu
open PySem Dn Lr L2 Ci
def iterN {σ : Type} (g : σ → σ) : Nat → σ → σ
  | 0, s => s
  | n + 1, s => iterN g n (g s)
def stepc {σ : Type} (c : σ → Bool) (f : σ → σ) (s : σ) : σ := if c s then f s else s
theorem iterN_stay {σ : Type} {c : σ → Bool} {f : σ → σ} {s : σ} (h : c s = false) : ∀ n, iterN (stepc c f) n s = s
  | 0 => rfl
  | n + 1 => by
    unfold iterN
    have : stepc c f s = s := by unfold stepc; rw [h]; rfl
    rw [this]
    exact iterN_stay h n
theorem iterN_succ {σ : Type} {g : σ → σ} : ∀ (n : Nat) (s : σ), iterN g (n + 1) s = g (iterN g n s)
  | 0, s => rfl
  | n + 1, s => iterN_succ n (g s)
theorem whl_sim {σ : Type} {t : DT} {b : DS} (R : σ → Dn.Env → Prop) (c : σ → Bool) (f : σ → σ) (h : ∀ s env, R s env → t env = .ok (c s) env ∧ (c s = true → ∃ e2, b env = .nx e2 ∧ R (f s) e2)) :
    ∀ (n : Nat) (s : σ) (env : Dn.Env) (fuel : Nat), R s env → c (iterN (stepc c f) n s) = false → n < fuel → ∃ env', whl t b fuel env = .nx env' ∧ R (iterN (stepc c f) n s) env'
  | n, s, env, 0, _, _, hf => absurd hf (Nat.not_lt_zero _)
  | n, s, env, fuel + 1, hr, hn, hf => by
    obtain ⟨h1, h2⟩ := h s env hr
    cases hc : c s with
    | false =>
      rw [hc] at h1
      refine ⟨env, ?_, ?_⟩
      · unfold whl; rw [h1]
      · rw [iterN_stay hc]; exact hr
    | true =>
      rw [hc] at h1
      obtain ⟨e2, h3, h4⟩ := h2 hc
      cases n with
      | zero => exact absurd hn (by unfold iterN; rw [hc]; decide)
      | succ n =>
        have e : stepc c f s = f s := by unfold stepc; rw [hc]; rfl
        unfold iterN at hn ⊢
        rw [e] at hn ⊢
        obtain ⟨env', q1, q2⟩ := whl_sim R c f h n (f s) e2 fuel h4 hn (by omega)
        refine ⟨env', ?_, q2⟩
        unfold whl
        rw [h1]
        dsimp only
        rw [h3]
        exact q1
theorem forL_sim {σ : Type} {g : DG} {b : DS} (R : σ → Dn.Env → Prop) (f : σ → σ) : ∀ (xs : List D) (s : σ) (env : Dn.Env), (∀ x ∈ xs, ∀ s env, R s env → ∃ e1 e2, g x env = some e1 ∧ b e1 = .nx e2 ∧ R (f s) e2) → R s env → ∃ env', forL g b xs env = .nx env' ∧ R (iterN f xs.length s) env'
  | [], s, env, _, hr => ⟨env, rfl, hr⟩
  | x :: xs, s, env, h, hr => by
    obtain ⟨e1, e2, h1, h2, h3⟩ := h x (List.mem_cons_self ..) s env hr
    obtain ⟨env', q1, q2⟩ := forL_sim R f xs (f s) e2 (fun y hy => h y (List.mem_cons_of_mem _ hy)) h3
    refine ⟨env', ?_, q2⟩
    unfold forL
    rw [h1]
    dsimp only
    rw [h2]
    exact q1
theorem forL_fold {σ : Type} {g : DG} {b : DS} (R : σ → Dn.Env → Prop) (f : σ → Nat → σ) : ∀ (xs : List Nat) (s : σ) (env : Dn.Env), (∀ x ∈ xs, ∀ s env, R s env → ∃ e1 e2, g (.int (x : Nat)) env = some e1 ∧ b e1 = .nx e2 ∧ R (f s x) e2) → R s env → ∃ env', forL g b (tn xs) env = .nx env' ∧ R (xs.foldl f s) env'
  | [], s, env, _, hr => ⟨env, rfl, hr⟩
  | x :: xs, s, env, h, hr => by
    obtain ⟨e1, e2, h1, h2, h3⟩ := h x (List.mem_cons_self ..) s env hr
    obtain ⟨env', q1, q2⟩ := forL_fold R f xs (f s x) e2 (fun y hy => h y (List.mem_cons_of_mem _ hy)) h3
    refine ⟨env', ?_, q2⟩
    show forL g b (.int (x : Nat) :: tn xs) env = _
    unfold forL
    rw [h1]
    dsimp only
    rw [h2]
    exact q1
end Pu

/-! the powers a number is made of, plain -/
namespace Np
open Pu
def dvc (p : Nat) (s : Nat × Nat) : Bool := decide (s.1 % p = 0)
def dvf (p : Nat) (s : Nat × Nat) : Nat × Nat := (s.1 / p, s.2 * p)
def inner (p l : Nat) : Nat × Nat := iterN (stepc (dvc p) (dvf p)) 40 (l, 1)
structure Ps where
  left : Nat
  part : Nat
  acc : List Nat
def psc (s : Ps) : Bool := decide (s.part * s.part ≤ s.left)
def psf (s : Ps) : Ps := ⟨(inner s.part s.left).1, s.part + 1, if 1 < (inner s.part s.left).2 then s.acc ++ [(inner s.part s.left).2] else s.acc⟩
def psN (n : Nat) : Ps := iterN (stepc psc psf) 40000 ⟨n, 2, []⟩
def powl (n : Nat) : List Nat := (psN n).acc ++ if 1 < (psN n).left then [(psN n).left] else []
structure Fine (n : Nat) : Prop where
  pos : 0 < n
  pw : ∀ d, 2 ≤ d → ¬ d ^ 41 ∣ n
  big : ∀ l, l ∣ n → (∀ d, 2 ≤ d → d < 40002 → ¬ d ∣ l) → l < 40002 * 40002
theorem dv_inv {p l : Nat} (hl : 0 < l) (hp : 2 ≤ p) : ∀ k (w : Nat), (iterN (stepc (dvc p) (dvf p)) k (l, w)).1 ∣ l ∧ 0 < (iterN (stepc (dvc p) (dvf p)) k (l, w)).1 ∧
    ((iterN (stepc (dvc p) (dvf p)) k (l, w)).1 % p ≠ 0 ∨ (p ^ k * (iterN (stepc (dvc p) (dvf p)) k (l, w)).1 = l))
  | 0, w => ⟨Nat.dvd_refl _, hl, .inr (by simp [iterN])⟩
  | k + 1, w => by
    obtain ⟨h1, h2, h3⟩ := dv_inv hl hp k w
    rw [iterN_succ]
    generalize iterN (stepc (dvc p) (dvf p)) k (l, w) = s at h1 h2 h3 ⊢
    unfold stepc dvc
    by_cases h : s.1 % p = 0
    · have hd := Nat.dvd_of_mod_eq_zero h
      rw [decide_eq_true h]
      show s.1 / p ∣ l ∧ 0 < s.1 / p ∧ _
      have : p ≤ s.1 := Nat.le_of_dvd h2 hd
      refine ⟨Nat.dvd_trans (Nat.div_dvd_of_dvd hd) h1, Nat.div_pos this (by omega), .inr ?_⟩
      rcases h3 with h3 | h3
      · exact absurd h h3
      · show p ^ (k + 1) * (s.1 / p) = l
        rw [Nat.pow_succ, Nat.mul_assoc, Nat.mul_div_cancel' hd, h3]
    · rw [decide_eq_false h]
      exact ⟨h1, h2, .inl h⟩
theorem inner_ok {n p l : Nat} (hf : Fine n) (hl : l ∣ n) (hp : 2 ≤ p) : (inner p l).1 ∣ l ∧ 0 < (inner p l).1 ∧ (inner p l).1 % p ≠ 0 := by
  have l0 : 0 < l := Nat.pos_of_dvd_of_pos hl hf.pos
  obtain ⟨h1, h2, h3⟩ := dv_inv l0 hp 40 1
  refine ⟨h1, h2, fun h => ?_⟩
  rcases h3 with h3 | h3
  · exact h3 h
  · obtain ⟨c, hc⟩ := Nat.dvd_of_mod_eq_zero h
    refine hf.pw p hp (Nat.dvd_trans ⟨c, ?_⟩ hl)
    have : l = p ^ 40 * (p * c) := by rw [← hc]; exact h3.symm
    rw [this, ← Nat.mul_assoc]
    rfl
theorem dv_end {n p l : Nat} (hf : Fine n) (hl : l ∣ n) (hp : 2 ≤ p) : dvc p (iterN (stepc (dvc p) (dvf p)) 40 (l, 1)) = false := decide_eq_false (inner_ok hf hl hp).2.2
structure PsI (n k : Nat) (s : Ps) : Prop where
  dv : s.left ∣ n
  pt : 2 ≤ s.part
  ptk : s.part ≤ k + 2
  no : ∀ d, 2 ≤ d → d < s.part → ¬ d ∣ s.left
  ln : s.acc.length ≤ k
theorem psI_step {n k : Nat} {s : Ps} (hf : Fine n) (h : PsI n k s) (hc : psc s = true) : PsI n (k + 1) (psf s) := by
  obtain ⟨i1, i2, i3⟩ := inner_ok hf h.dv h.pt
  unfold psf
  generalize inner s.part s.left = r at i1 i2 i3 ⊢
  refine ⟨Nat.dvd_trans i1 h.dv, ?_, ?_, ?_, ?_⟩
  · show 2 ≤ s.part + 1; have := h.pt; omega
  · show s.part + 1 ≤ _; have := h.ptk; omega
  · intro d d1 d2 d3
    replace d3 : d ∣ r.1 := d3
    by_cases hd : d = s.part
    · subst hd
      exact i3 (Nat.mod_eq_zero_of_dvd d3)
    · have : d < s.part + 1 := d2
      exact h.no d d1 (by omega) (Nat.dvd_trans d3 i1)
  · show (if _ then _ else _ : List Nat).length ≤ _
    have := h.ln
    split
    · simp; omega
    · omega
theorem psI_iter {n : Nat} (hf : Fine n) : ∀ k, PsI n k (iterN (stepc psc psf) k ⟨n, 2, []⟩) ∧ (psc (iterN (stepc psc psf) k ⟨n, 2, []⟩) = false ∨ (iterN (stepc psc psf) k ⟨n, 2, []⟩).part = k + 2)
  | 0 => ⟨⟨Nat.dvd_refl _, Nat.le_refl 2, Nat.le_refl 2, fun d h1 h2 => by have : d < 2 := h2; omega, Nat.le_refl 0⟩, .inr rfl⟩
  | k + 1 => by
    obtain ⟨h1, h2⟩ := psI_iter hf k
    rw [iterN_succ]
    generalize iterN (stepc psc psf) k ⟨n, 2, []⟩ = s at h1 h2 ⊢
    cases hc : psc s with
    | false =>
      have e : stepc psc psf s = s := by unfold stepc; rw [hc]; rfl
      rw [e]
      exact ⟨⟨h1.dv, h1.pt, by have := h1.ptk; omega, h1.no, by have := h1.ln; omega⟩, .inl hc⟩
    | true =>
      have e : stepc psc psf s = psf s := by unfold stepc; rw [hc]; rfl
      rw [e]
      refine ⟨psI_step hf h1 hc, .inr ?_⟩
      rcases h2 with h2 | h2
      · rw [hc] at h2; cases h2
      · show s.part + 1 = _; omega
theorem ps_end {n : Nat} (hf : Fine n) : psc (psN n) = false := by
  unfold psN
  obtain ⟨h1, h2⟩ := psI_iter hf 40000
  rcases h2 with h2 | h2
  · exact h2
  · generalize iterN (stepc psc psf) 40000 ⟨n, 2, []⟩ = s at h1 h2 ⊢
    have := hf.big _ h1.dv (fun d d1 d2 => h1.no d d1 (by omega))
    unfold psc
    rw [h2]
    exact decide_eq_false (by omega)
theorem ps_len {n : Nat} (hf : Fine n) : (powl n).length ≤ 40001 := by
  have := (psI_iter hf 40000).1.ln
  unfold powl psN
  rw [List.length_append]
  split <;> simp <;> omega
theorem dvd_pow {a b : Nat} (h : a ∣ b) (k : Nat) : a ^ k ∣ b ^ k := by
  obtain ⟨c, rfl⟩ := h
  exact ⟨c ^ k, Nat.mul_pow a c k⟩
theorem fine_small {n : Nat} (h0 : 0 < n) (h : n ≤ 1000000000) : Fine n := by
  refine ⟨h0, fun d hd hk => ?_, fun l hl _ => ?_⟩
  · have h1 := Nat.le_of_dvd h0 hk
    have h2 : 2 ^ 41 ≤ d ^ 41 := Nat.pow_le_pow_left hd 41
    have : (1000000000 : Nat) < 2 ^ 41 := by decide
    omega
  · have := Nat.le_of_dvd h0 hl
    omega
theorem fine_best {m : Nat} (h : m ≤ 2000) (h0 : 0 < best m) : Fine (best m) := by
  have hl := lot_best h
  refine ⟨h0, fun d hd hk => ?_, fun l hl2 hn => ?_⟩
  · obtain ⟨p, p1, p2, _⟩ := least_div hd
    have := (lot_small p1 hl 41 (Nat.dvd_trans (dvd_pow (Nat.dvd_of_mod_eq_zero p2) 41) hk)).2
    have h2 : 2 ^ 41 ≤ p ^ 41 := Nat.pow_le_pow_left p1.1 41
    have : (2000 : Nat) < 2 ^ 41 := by decide
    omega
  · by_cases h2 : 2 ≤ l
    · obtain ⟨p, p1, p2, _⟩ := least_div h2
      have pl := Nat.dvd_of_mod_eq_zero p2
      have := (lot_small p1 hl 1 (by rw [Nat.pow_one]; exact Nat.dvd_trans pl hl2)).2
      rw [Nat.pow_one] at this
      exact absurd pl (hn p p1.1 (by omega))
    · omega
theorem upE_pos {p m e : Nat} {b : Nat → Nat} (h : 0 < b m) : 0 < upE p b m e := by
  induction e with
  | zero => exact h
  | succ e ih =>
    unfold upE
    split
    · exact Nat.lt_of_lt_of_le ih (Nat.le_max_left _ _)
    · exact ih
theorem tab_pos : ∀ (ps : List Nat) (b : Nat → Nat) (m : Nat), (∀ m, 0 < b m) → 0 < ps.foldl up b m
  | [], b, m, h => h m
  | p :: ps, b, m, h => tab_pos ps _ m fun m => upE_pos (h m)
theorem best_pos (m : Nat) : 0 < best m := tab_pos _ _ _ fun _ => Nat.one_pos
end Np

/-! powers_of and _law_powers -/
namespace Pu
open PySem Dn Lr L2 Ci Np
theorem psA {n k : Nat} {s : Ps} (hf : Fine n) (h : PsI n k s) (hc : psc s = true) : s.part < 40002 := by
  have hc : s.part * s.part ≤ s.left := of_decide_eq_true hc
  by_cases hp : s.part < 40002
  · exact hp
  · have := hf.big _ h.dv (fun d d1 d2 => h.no d d1 (by omega))
    have : 40002 * 40002 ≤ s.part * s.part := Nat.mul_le_mul (by omega) (by omega)
    omega
theorem gMod_n {a b : Nat} (h : 0 < b) : gMod (.int (a : Nat)) (.int (b : Nat)) = some (.int ((a % b : Nat) : Int)) := by rw [gMod_i (by omega)]; rfl
theorem gDiv_n {a b : Nat} (h : 0 < b) (hb : b < 2 ^ 60) : gDiv (.int (a : Nat)) (.int (b : Nat)) = some (.int ((a / b : Nat) : Int)) := by
  have : (b : Int) < 2 ^ 3000 := by
    have : (2 : Int) ^ 60 ≤ 2 ^ 3000 := by decide +kernel
    have e : (2 : Int) ^ 60 = ((2 ^ 60 : Nat) : Int) := by norm_cast
    omega
  rw [gDiv_i (by omega) this]; rfl
theorem gMul_n {a b : Nat} (hb : b < 2 ^ 60) : gMul (.int (a : Nat)) (.int (b : Nat)) = some (.int ((a * b : Nat) : Int)) := by
  rw [gMul_r (by simpa using hb)]
  rw [Int.natCast_mul]
theorem gMul_n' {a b : Nat} (hb : a < 2 ^ 60) : gMul (.int (a : Nat)) (.int (b : Nat)) = some (.int ((a * b : Nat) : Int)) := by
  rw [gMul_l (by simpa using hb)]
  rw [Int.natCast_mul]
theorem gLe_n {a b : Nat} : gLe (.int (a : Nat)) (.int (b : Nat)) = some (.bl (decide (a ≤ b))) := by
  rw [gLe_i]
  congr 2
  exact decide_eq_decide.mpr (by omega)
theorem gLt_n {a b : Nat} : gLt (.int (a : Nat)) (.int (b : Nat)) = some (.bl (decide (a < b))) := by
  rw [gLt_i]
  congr 2
  exact decide_eq_decide.mpr (by omega)
theorem gGt_n {a b : Nat} : gGt (.int (a : Nat)) (.int (b : Nat)) = some (.bl (decide (b < a))) := by
  rw [gGt_i]
  congr 2
  exact decide_eq_decide.mpr (by omega)
theorem gEq_n {a b : Nat} : gEq (.int (a : Nat)) (.int (b : Nat)) = some (.bl (decide (a = b))) := by
  rw [gEq_i]
  congr 2
  exact decide_eq_decide.mpr (by omega)
theorem gAdd_n {a b : Nat} : gAdd (.int (a : Nat)) (.int (b : Nat)) = some (.int ((a + b : Nat) : Int)) := by
  rw [gAdd_i, Int.natCast_add]
abbrev piT : DT := dTest (dOp gEq (dOp gMod (dVar 3) (dVar 2)) (dC (.int (0 : Nat))))
abbrev piB : DS := sPar [3, 4] (pCons (dOp gDiv (dVar 3) (dVar 2)) (pCons (dOp gMul (dVar 4) (dVar 2)) pNil))
theorem pow_in {n p l : Nat} {x a : D} (hf : Fine n) (hl : l ∣ n) (hp : 2 ≤ p) (hp2 : p < 2 ^ 60) :
    whl piT piB WF [some x, some a, some (.int (p : Nat)), some (.int (l : Nat)), some (.int (1 : Nat))] = .nx [some x, some a, some (.int (p : Nat)), some (.int ((inner p l).1 : Nat)), some (.int ((inner p l).2 : Nat))] := by
  obtain ⟨env', q1, q2⟩ := whl_sim (t := piT) (b := piB) (fun (s : Nat × Nat) env => env = [some x, some a, some (.int (p : Nat)), some (.int (s.1 : Nat)), some (.int (s.2 : Nat))]) (dvc p) (dvf p) (fun s env he => by
    subst he
    have h1 := gMod_n (a := s.1) (b := p) (by omega)
    have h2 := gEq_n (a := s.1 % p) (b := 0)
    have h3 := gDiv_n (a := s.1) (b := p) (by omega) hp2
    have h4 := gMul_n (a := s.2) (b := p) hp2
    refine ⟨?_, fun _ => ⟨_, ?_, rfl⟩⟩
    · simp only [dTest, dOp, dVar, dC, look0, lookS, rd_val, h1, h2, dvc]
    · simp only [sPar, pCons, pNil, dOp, dVar, look0, lookS, rd_val, h3, h4, dvf]
      rfl) 40 (l, 1) _ WF rfl (dv_end hf hl hp) (by decide)
  rw [q1, q2]
  rfl
abbrev poT : DT := dTest (dOp gLe (dOp gMul (dVar 2) (dVar 2)) (dVar 3))
abbrev poB : DS := sSeq (sSet 4 (dC (.int (1 : Nat)))) (sSeq (whl piT piB WF) (sSeq (sIf (dTest (dOp gGt (dVar 4) (dC (.int (1 : Nat))))) (sExpr (dMut 1 mAppend (aCons (dVar 4) aNil))) sNil) (sAug 2 addInt (dC (.int (1 : Nat))))))
theorem pow_step {n k : Nat} {s : Ps} {x : D} {w : Option D} (hf : Fine n) (h : PsI n k s) (hk : k ≤ 50000) (hc : psc s = true) : ∃ w',
    poB [some x, some (.lst (tn s.acc)), some (.int (s.part : Nat)), some (.int (s.left : Nat)), w] = .nx [some x, some (.lst (tn (psf s).acc)), some (.int ((psf s).part : Nat)), some (.int ((psf s).left : Nat)), w'] := by
  have hp := psA hf h hc
  have h2 := h.pt
  have hw := pow_in (x := x) (a := .lst (tn s.acc)) hf h.dv h2 (by omega)
  have ln := h.ln
  unfold psf poB
  generalize whl piT piB WF = L at hw ⊢
  generalize inner s.part s.left = r at hw ⊢
  have hg := gGt_n (a := r.2) (b := 1)
  have ha := mAppend_ok (xs := tn s.acc) (y := .int (r.2 : Nat)) (by simp; omega)
  have ea : tn s.acc ++ [.int (r.2 : Nat)] = tn (s.acc ++ [r.2]) := by simp [tn]
  have hi : addInt (.int (s.part : Nat)) (.int (1 : Nat)) = some (.int ((s.part + 1 : Nat) : Int)) := by simp [addInt]
  refine ⟨some (.int (r.2 : Nat)), ?_⟩
  by_cases hr : 1 < r.2
  · rw [decide_eq_true hr] at hg
    rw [if_pos hr]
    simp only [sSeq, sSet, dC, List.set_cons_succ, List.set_cons_zero, hw, sIf, dTest, dOp, dVar, look0, lookS, rd_val, hg, sExpr, dMut, aCons, aNil, clean, Option.map_some, rds, ha, sAug, hi, ea]
  · rw [decide_eq_false hr] at hg
    rw [if_neg hr]
    simp only [sSeq, sSet, dC, List.set_cons_succ, List.set_cons_zero, hw, sIf, dTest, dOp, dVar, look0, lookS, rd_val, hg, sNil, sAug, hi]
theorem pow_out {n : Nat} {x : D} (hf : Fine n) : ∃ w, whl poT poB WF [some x, some (.lst (tn [])), some (.int (2 : Nat)), some (.int (n : Nat)), none] = .nx [some x, some (.lst (tn (psN n).acc)), some (.int ((psN n).part : Nat)), some (.int ((psN n).left : Nat)), w] := by
  obtain ⟨env', q1, q2⟩ := whl_sim (t := poT) (b := poB) (fun (s : Ps) env => PsI n s.part s ∧ s.part ≤ 40002 ∧ ∃ w, env = [some x, some (.lst (tn s.acc)), some (.int (s.part : Nat)), some (.int (s.left : Nat)), w]) psc psf (fun s env he => by
    obtain ⟨hi, hb, w, rfl⟩ := he
    refine ⟨?_, fun hc => ?_⟩
    · have h1 := gMul_n (a := s.part) (b := s.part) (by omega)
      have h2 := gLe_n (a := s.part * s.part) (b := s.left)
      simp only [dTest, dOp, dVar, look0, lookS, rd_val, h1, h2, psc]
    · have hp := psA hf hi hc
      obtain ⟨w', h⟩ := pow_step (x := x) (w := w) hf hi (by omega) hc
      exact ⟨_, h, psI_step hf hi hc, Nat.succ_le_of_lt hp, w', rfl⟩) 40000 ⟨n, 2, []⟩ _ WF ⟨⟨Nat.dvd_refl _, Nat.le_refl 2, (show 2 ≤ 2 + 2 by omega), fun d h1 h2 => by have : d < 2 := h2; omega, Nat.zero_le _⟩, (show 2 ≤ 40002 by omega), none, rfl⟩ (ps_end hf) (by decide)
  obtain ⟨_, _, w, rfl⟩ := q2
  exact ⟨w, q1⟩
theorem unI_tn : ∀ l : List Nat, unInts (tn l) = some (l.map fun x : Nat => (x : Int))
  | [] => rfl
  | x :: l => by
    show (unInts (tn l)).map _ = _
    rw [unI_tn l]
    rfl
def insN (n : Nat) : List Nat → List Nat
  | [] => [n]
  | m :: r => if n ≤ m then n :: m :: r else m :: insN n r
def srt : List Nat → List Nat
  | [] => []
  | n :: r => insN n (srt r)
theorem insI_n (n : Nat) : ∀ l : List Nat, insI (n : Int) (l.map fun x : Nat => (x : Int)) = (insN n l).map fun x : Nat => (x : Int)
  | [] => rfl
  | m :: l => by
    rw [List.map_cons]
    unfold insI insN
    by_cases h : n ≤ m
    · rw [if_pos h, if_pos (by omega)]; rfl
    · rw [if_neg h, if_neg (by omega), insI_n n l]; rfl
theorem sortI_n : ∀ l : List Nat, sortI (l.map fun x : Nat => (x : Int)) = (srt l).map fun x : Nat => (x : Int)
  | [] => rfl
  | m :: l => by
    rw [List.map_cons]
    unfold sortI srt
    rw [sortI_n l, insI_n]
theorem bSorted_n {l : List Nat} : bSorted [.lst (tn l)] = some (.lst (tn (srt l))) := by
  unfold bSorted
  simp only [unI_tn, Option.map_some, sortI_n]
  simp [tn]
theorem powers_of_ok {n : Nat} (hf : Fine n) : d_powers_of [.int (n : Nat)] = .rn (.lst (tn (srt (powl n)))) .non := by
  obtain ⟨w, h⟩ := pow_out (x := .int (n : Nat)) hf
  have hl := ps_len hf
  have hs : bSorted [.lst (tn (powl n))] = some (.lst (tn (srt (powl n)))) := bSorted_n
  unfold powl at hl hs ⊢
  generalize psN n = s at h hl hs ⊢
  unfold d_powers_of b_powers_of
  have hg : gGt (.int (s.left : Nat)) (.int 1) = some (.bl (decide (1 < s.left))) := gGt_n (a := s.left) (b := 1)
  have e0 : List.map some [D.int (n : Nat)] ++ List.replicate (5 - [D.int (n : Nat)].length) none = [some (.int (n : Nat)), none, none, none, none] := rfl
  have e1 : setsE [some (.int (n : Nat)), none, none, none, none] [1, 2, 3] [.lst [], .int 2, .int (n : Nat)] = [some (.int (n : Nat)), some (.lst []), some (.int 2), some (.int (n : Nat)), none] := rfl
  have h' : whl (dTest (dOp gLe (dOp gMul (dVar 2) (dVar 2)) (dVar 3))) poB WF [some (.int (n : Nat)), some (.lst []), some (.int 2), some (.int (n : Nat)), none] = _ := h
  generalize whl (dTest (dOp gLe (dOp gMul (dVar 2) (dVar 2)) (dVar 3))) _ WF = L at h' ⊢
  have l0 : ([] : List D).length ≤ 1000000 := by simp
  by_cases hr : 1 < s.left
  · rw [decide_eq_true hr] at hg
    rw [if_pos hr] at hl hs ⊢
    have l1 : ([.int (s.left : Nat)] : List D).length ≤ 1000000 := by simp
    have ha : gAdd (.lst (tn s.acc)) (.lst [.int (s.left : Nat)]) = some (.lst (tn (s.acc ++ [s.left]))) := by
      show (if (tn s.acc).length + 1 ≤ 1000000 then _ else _) = _
      rw [if_pos (by simp at hl ⊢; omega)]
      simp [tn]
    simp only [runF, Option.map_some, e0, e1, sSeq, sPar, pCons, pNil, dDisp, aNil, aCons, clean, l0, l1, if_true, dC, dVar, look0, lookS, rd_val, h', sRetN, dFn, dIf, dTest, dOp, dOwn, hg, rds, ha, hs, outOf, rd_slot, unfz_lst]
  · rw [decide_eq_false hr] at hg
    rw [if_neg hr, List.append_nil] at hl hs ⊢
    simp only [runF, Option.map_some, e0, e1, sSeq, sPar, pCons, pNil, dDisp, aNil, aCons, clean, l0, if_true, dC, dVar, look0, lookS, rd_val, h', sRetN, dFn, dIf, dTest, dOp, dOwn, hg, rds, hs, outOf, rd_slot, unfz_lst]
end Pu

/-! primes_to -/
namespace Pu
open PySem Dn Lr L2 Ci Np
def tb (N : Nat) (f : Nat → D) : List D := (List.range (N + 1)).map f
@[simp] theorem tb_len {N : Nat} {f : Nat → D} : (tb N f).length = N + 1 := by simp [tb]
theorem tb_get {N i : Nat} {f : Nat → D} (h : i ≤ N) : (tb N f)[i]? = some (f i) := by
  unfold tb
  rw [List.getElem?_map, List.getElem?_range (by omega)]
  rfl
theorem tb_ix {N i : Nat} {f : Nat → D} (h : i ≤ N) : gIx (.lst (tb N f)) (.int (i : Nat)) = some (f i) := by
  rw [gIx_l, atI_n, tb_get h]
theorem tb_ixN {N i : Nat} {f : Nat → D} (h : i ≤ N) : ixN (tb N f).length ((i : Nat) : Int) = some i := ixN_n (by simp; omega)
theorem tb_set {N i : Nat} {f : Nat → D} {d : D} (h : i ≤ N) : (tb N f).set i d = tb N fun x => if x = i then d else f x := by
  apply List.ext_getElem?
  intro j
  rw [List.getElem?_set]
  by_cases hj : j ≤ N
  · by_cases e : i = j
    · subst e; simp [tb_get hj]; omega
    · rw [if_neg e, tb_get hj, tb_get hj, if_neg (Ne.symm e)]
  · rw [List.getElem?_eq_none (by simp; omega), List.getElem?_eq_none (by simp; omega)]
    split
    · rw [if_neg (by simp; omega)]
    · rfl
theorem tb_congr {N : Nat} {f g : Nat → D} (h : ∀ x, x ≤ N → f x = g x) : tb N f = tb N g := by
  unfold tb
  exact List.map_congr_left fun x hx => h x (by rw [List.mem_range] at hx; omega)
theorem rep_flat {N : Nat} {d : D} : (List.replicate N [d]).flatten = List.replicate N d := by
  induction N with
  | zero => rfl
  | succ n ih => rw [List.replicate_succ, List.flatten_cons, ih]; rfl
theorem rep_tb {N : Nat} {d : D} : (List.replicate (N + 1) [d]).flatten = tb N fun _ => d := by
  rw [rep_flat]
  apply List.ext_getElem?
  intro j
  by_cases hj : j ≤ N
  · rw [tb_get hj, List.getElem?_replicate, if_pos (by omega)]
  · rw [List.getElem?_eq_none (by simp; omega), List.getElem?_eq_none (by simp; omega)]
theorem gRep_n {n : Nat} {d : D} (h : n ≤ 1000000) : gRep (.lst [d]) (.int (n : Nat)) = some (.lst (List.replicate n d)) := by
  have e : ((n : Nat) : Int).toNat = n := by omega
  simp only [gRep, e]
  rw [if_pos, rep_flat]
  simp only [Bool.and_eq_true, decide_eq_true_eq, List.length_cons, List.length_nil]
  omega
def svc (m N : Nat) : Nat := (N + m - m * m) / m
def sv (m N : Nat) : List Nat := (List.range (svc m N)).map fun i => m * m + i * m
theorem sv_mem {m N x : Nat} (hm : 2 ≤ m) : x ∈ sv m N ↔ m * m ≤ x ∧ x ≤ N ∧ x % m = 0 := by
  unfold sv svc
  rw [List.mem_map]
  constructor
  · rintro ⟨i, hi, rfl⟩
    rw [List.mem_range] at hi
    refine ⟨by omega, ?_, by rw [← Nat.add_mul]; exact Nat.mul_mod_left _ _⟩
    have : i + 1 ≤ (N + m - m * m) / m := hi
    have := (Nat.le_div_iff_mul_le (by omega)).mp this
    rw [Nat.add_mul] at this
    omega
  · rintro ⟨h1, h2, h3⟩
    obtain ⟨q, rfl⟩ := Nat.dvd_of_mod_eq_zero h3
    have hq : m ≤ q := Nat.le_of_mul_le_mul_left h1 (by omega)
    refine ⟨q - m, ?_, ?_⟩
    · rw [List.mem_range]
      show q - m + 1 ≤ _
      rw [Nat.le_div_iff_mul_le (by omega), Nat.add_mul, Nat.sub_mul, Nat.mul_comm q m]
      omega
    · show m * m + (q - m) * m = _
      rw [Nat.sub_mul, Nat.mul_comm q m]
      omega
theorem prog_tn (a s : Nat) : ∀ n : Nat, prog (a : Nat) (s : Nat) n = tn ((List.range n).map fun i => a + i * s)
  | 0 => rfl
  | n + 1 => by
    show D.int (a : Nat) :: prog ((a : Nat) + (s : Nat)) (s : Nat) n = _
    have e := prog_tn (a + s) s n
    rw [show ((a : Nat) : Int) + (s : Nat) = ((a + s : Nat) : Int) from by omega, e, List.range_succ_eq_map]
    simp only [tn, List.map_cons, List.map_map]
    refine congr (congrArg _ (by simp)) (List.map_congr_left fun i _ => ?_)
    simp only [Function.comp]
    congr 2
    rw [Nat.succ_mul]
    omega
theorem fitsL {i : Int} (h : i.natAbs ≤ 10 ^ 12) : Builtin.Range.rangeFitsLong i = true := by
  unfold Builtin.Range.rangeFitsLong
  rw [Bool.and_eq_true]
  exact ⟨decide_eq_true (by omega), decide_eq_true (by omega)⟩
theorem range3_ok {m N : Nat} (hm : 2 ≤ m) (hm2 : m ≤ 100000) (hN : N ≤ 100000) : range3 [.int ((m * m : Nat) : Int), .int ((N + 1 : Nat) : Int), .int (m : Nat)] = some (tn (sv m N)) := by
  have hmm : m * m ≤ 100000 * 100000 := Nat.mul_le_mul hm2 hm2
  have hz : svc m N ≤ 200000 := by
    unfold svc
    exact Nat.le_trans (Nat.div_le_self _ _) (by omega)
  have e : rs3 ((m * m : Nat) : Int) ((N + 1 : Nat) : Int) (m : Nat) = svc m N := by
    unfold rs3 svc
    have : ((N + 1 : Nat) : Int) - ((m * m : Nat) : Int) + (m : Nat) - 1 = ((N + m : Nat) : Int) - ((m * m : Nat) : Int) := by omega
    rw [this]
    by_cases h : m * m ≤ N + m
    · rw [← Int.ofNat_sub h]
      exact Int.toNat_natCast _
    · have h1 : (N + m - m * m) = 0 := by omega
      rw [h1, Nat.zero_div]
      have : (((N + m : Nat) : Int) - ((m * m : Nat) : Int)) / (m : Nat) < 0 := Int.ediv_neg_of_neg_of_pos (by omega) (by omega)
      omega
  have rz : Builtin.Range.rangeSize ((m * m : Nat) : Int) ((N + 1 : Nat) : Int) (m : Nat) = svc m N := by
    unfold Builtin.Range.rangeSize svc
    rw [if_pos (by omega)]
    split
    · rename_i h
      have h2 : m * m ≤ N := by omega
      have : ((N + 1 : Nat) : Int) - ((m * m : Nat) : Int) - 1 = ((N - m * m : Nat) : Int) := by omega
      rw [this]
      have : (N + m - m * m) / m = (N - m * m) / m + 1 := by
        rw [show N + m - m * m = (N - m * m) + m by omega, Nat.add_div_right _ (by omega)]
      rw [this]
      rfl
    · have h1 : (N + m - m * m) / m = 0 := by
        rw [Nat.div_eq_zero_iff]
        right; omega
      rw [h1]
      rfl
  have c : (decide (((m : Nat) : Int) ≠ 0) && decide (((m : Nat) : Int).natAbs < 1073741824) && Builtin.Range.small ((m * m : Nat) : Int) ((N + 1 : Nat) : Int) (m : Nat) && decide (Builtin.Range.rangeSize ((m * m : Nat) : Int) ((N + 1 : Nat) : Int) (m : Nat) = svc m N)) = true := by
    rw [Bool.and_eq_true, Bool.and_eq_true, Bool.and_eq_true]
    refine ⟨⟨⟨decide_eq_true (by omega), decide_eq_true (by omega)⟩, ?_⟩, decide_eq_true rz⟩
    unfold Builtin.Range.small
    simp only [rz]
    have f1 := fitsL (i := ((m * m : Nat) : Int)) (by omega)
    have f2 := fitsL (i := ((N + 1 : Nat) : Int)) (by omega)
    have f3 := fitsL (i := ((m : Nat) : Int)) (by omega)
    have f4 := fitsL (i := ((svc m N : Nat) : Int)) (by omega)
    have f5 := fitsL (i := ((N + 1 : Nat) : Int) + (((m : Nat) : Int) - 1)) (by omega)
    rw [f1, f2, f3, f4, if_pos (by omega), f5]
    simp
  show (if (decide (((m : Nat) : Int) ≠ 0) && decide (((m : Nat) : Int).natAbs < 1073741824) && Builtin.Range.small ((m * m : Nat) : Int) ((N + 1 : Nat) : Int) (m : Nat) && decide (Builtin.Range.rangeSize ((m * m : Nat) : Int) ((N + 1 : Nat) : Int) (m : Nat) = rs3 ((m * m : Nat) : Int) ((N + 1 : Nat) : Int) (m : Nat))) = true then some (prog ((m * m : Nat) : Int) (m : Nat) (rs3 ((m * m : Nat) : Int) ((N + 1 : Nat) : Int) (m : Nat))) else none) = _
  rw [e, if_pos c]
  unfold sv
  rw [← prog_tn]
theorem forL_foldR {σ : Type} {g : DG} {b : DS} (R : List Nat → σ → Dn.Env → Prop) (f : σ → Nat → σ) (h : ∀ x r s env, R (x :: r) s env → ∃ e1 e2, g (.int (x : Nat)) env = some e1 ∧ b e1 = .nx e2 ∧ R r (f s x) e2) :
    ∀ (xs : List Nat) (s : σ) (env : Dn.Env), R xs s env → ∃ env', forL g b (tn xs) env = .nx env' ∧ R [] (xs.foldl f s) env'
  | [], s, env, hr => ⟨env, rfl, hr⟩
  | x :: xs, s, env, hr => by
    obtain ⟨e1, e2, h1, h2, h3⟩ := h x xs s env hr
    obtain ⟨env', q1, q2⟩ := forL_foldR R f h xs (f s x) e2 h3
    refine ⟨env', ?_, q2⟩
    show forL g b (.int (x : Nat) :: tn xs) env = _
    unfold forL
    rw [h1]
    dsimp only
    rw [h2]
    exact q1
theorem big_n {n : Nat} (h : n < 2 ^ 62) : big (n : Nat) = true := by
  unfold big
  exact decide_eq_true (by simpa using h)
/-- a, a + 1, .. up to b - 1 -/
def rg (a b : Nat) : List Nat := (List.range (b - a)).map fun i => a + i
theorem rg_mem {a b x : Nat} : x ∈ rg a b ↔ a ≤ x ∧ x < b := by
  unfold rg
  rw [List.mem_map]
  constructor
  · rintro ⟨i, hi, rfl⟩
    rw [List.mem_range] at hi
    omega
  · rintro ⟨h1, h2⟩
    exact ⟨x - a, by rw [List.mem_range]; omega, by omega⟩
@[simp] theorem rg_len {a b : Nat} : (rg a b).length = b - a := by simp [rg]
theorem rg_cons {a b : Nat} (h : a < b) : rg a b = a :: rg (a + 1) b := by
  unfold rg
  rw [show b - a = (b - (a + 1)) + 1 by omega, List.range_succ_eq_map]
  simp [Function.comp_def]
  intro i _
  omega
theorem rg_nil {a b : Nat} (h : b ≤ a) : rg a b = [] := by
  unfold rg
  rw [show b - a = 0 by omega]
  rfl
theorem rg_snoc {a b : Nat} (h : a ≤ b) : rg a (b + 1) = rg a b ++ [b] := by
  unfold rg
  rw [show b + 1 - a = (b - a) + 1 by omega, List.range_succ, List.map_append]
  simp
  omega
theorem range2_n {a b : Nat} (ha : a < 2 ^ 62) (hb : b < 2 ^ 62) : range2 [.int (a : Nat), .int (b : Nat)] = some (tn (rg a b)) := by
  show (if (big (a : Nat) && big (b : Nat)) = true then some (prog (a : Nat) 1 (((b : Nat) : Int) - (a : Nat)).toNat) else none) = _
  rw [big_n ha, big_n hb]
  have e : (((b : Nat) : Int) - (a : Nat)).toNat = b - a := by omega
  have h := prog_tn a 1 (b - a)
  rw [e]
  simp only [Bool.and_self, if_true]
  rw [show ((1 : Nat) : Int) = 1 from rfl] at h
  rw [h]
  unfold rg
  simp
theorem range1_n {b : Nat} (hb : b < 2 ^ 62) : range1 [.int (b : Nat)] = some (tn (List.range b)) := by
  show (if big (b : Nat) = true then some (prog 0 1 ((b : Nat) : Int).toNat) else none) = _
  rw [big_n hb]
  simp only [if_true]
  rw [show ((b : Nat) : Int).toNat = b from by omega, tn_range]
/-! the sieve -/
def siv (N : Nat) (kn : Nat → Bool) (m : Nat) : Nat → Bool := fun y => kn y && decide (y ∉ sv m N)
theorem siv_in {N m : Nat} {kn : Nat → Bool} {x0 x1 x3 : Option D} {v : Option D} (hm : 2 ≤ m) :
    ∃ v', forL (gN 4) (sSetIx 2 (dC (.bl false)) (dVar 4)) (tn (sv m N)) [x0, x1, some (.lst (tb N fun x => .bl (kn x))), x3, v] = .nx [x0, x1, some (.lst (tb N fun x => .bl (siv N kn m x))), x3, v'] := by
  obtain ⟨env', q1, q2⟩ := forL_foldR (g := gN 4) (b := sSetIx 2 (dC (.bl false)) (dVar 4))
    (fun rem (s : Nat → Bool) env => (∀ y ∈ rem, y ≤ N) ∧ ∃ v, env = [x0, x1, some (.lst (tb N fun x => .bl (s x))), x3, v]) (fun s x y => s y && decide (y ≠ x)) (fun x r s env ⟨h1, v, he⟩ => by
      subst he
      have hx := h1 x (List.mem_cons_self ..)
      refine ⟨_, _, rfl, ?_, fun y hy => h1 y (List.mem_cons_of_mem _ hy), some (.int (x : Nat)), rfl⟩
      have e1 := tb_ixN (f := fun x => D.bl (s x)) hx
      have e2 := tb_set (f := fun x => D.bl (s x)) (d := .bl false) hx
      have e3 : tb N (fun y => if y = x then D.bl false else D.bl (s y)) = tb N fun y => D.bl (s y && decide (y ≠ x)) := tb_congr fun y _ => by
        by_cases z : y = x <;> simp [z]
      simp only [sSetIx, dC, dVar, look0, lookS, List.set_cons_succ, List.set_cons_zero, rd_val, e1, e2, e3]) (sv m N) kn _ ⟨fun y hy => ((sv_mem hm).mp hy).2.1, v, rfl⟩
  obtain ⟨_, v', rfl⟩ := q2
  refine ⟨v', ?_⟩
  rw [q1]
  have key : ∀ (l : List Nat) (k : Nat → Bool) (y : Nat), l.foldl (fun s x y => s y && decide (y ≠ x)) k y = (k y && decide (y ∉ l)) := by
    intro l
    induction l with
    | nil => intro k y; simp
    | cons a l ih =>
      intro k y
      rw [List.foldl_cons, ih]
      by_cases z : y = a
      · simp [z]
      · by_cases z2 : y ∈ l <;> simp [z, z2]
  have e : (fun x => D.bl ((sv m N).foldl (fun s x y => s y && decide (y ≠ x)) kn x)) = fun x => D.bl (siv N kn m x) := by
    funext y
    rw [key]
    rfl
  rw [e]
def sivs (N : Nat) (s : (Nat → Bool) × List Nat) (m : Nat) : (Nat → Bool) × List Nat := if s.1 m then (siv N s.1 m, s.2 ++ [m]) else s
theorem sivs_inv {N : Nat} : ∀ n, n ≤ N + 1 → 2 ≤ n → (∀ x, x ≤ N → (((rg 2 n).foldl (sivs N) (fun _ => true, [])).1 x = true ↔ ¬ Cro n x)) ∧ ((rg 2 n).foldl (sivs N) (fun _ => true, [])).2 = (rg 2 n).filter isp
  | 0, _, h => by omega
  | n + 1, hn, h2 => by
    by_cases e : n = 1
    · subst e
      have : rg 2 (1 + 1) = [] := rg_nil (by omega)
      rw [this]
      refine ⟨fun x _ => ⟨fun _ ⟨k, h1, h2, _⟩ => by have := h1.1; omega, fun _ => rfl⟩, rfl⟩
    · obtain ⟨i1, i2⟩ := sivs_inv (N := N) n (by omega) (by omega)
      rw [rg_snoc (by omega), List.foldl_append, List.filter_append, List.foldl_cons, List.foldl_nil]
      generalize (rg 2 n).foldl (sivs N) (fun _ => true, []) = s at i1 i2 ⊢
      have hat := i1 n (by omega)
      have ci := cro_at (m := n) (by omega)
      unfold sivs
      by_cases hk : s.1 n = true
      · have hp : Isp n := ci.mp (hat.mp hk)
        rw [if_pos hk]
        refine ⟨fun x hx => ?_, ?_⟩
        · show siv N s.1 n x = true ↔ _
          unfold siv
          rw [Bool.and_eq_true, i1 x hx, decide_eq_true_eq, sv_mem (by omega), cro_succ]
          constructor
          · rintro ⟨a, b⟩ (c | ⟨_, c, d⟩)
            · exact a c
            · exact b ⟨c, hx, d⟩
          · intro c
            exact ⟨fun z => c (.inl z), fun ⟨z1, _, z2⟩ => c (.inr ⟨hp, z1, z2⟩)⟩
        · show s.2 ++ [n] = _
          rw [i2, List.filter_cons, if_pos (isp_iff.mpr hp)]
          rfl
      · have hp : ¬ Isp n := fun z => hk (hat.mpr (ci.mpr z))
        rw [if_neg hk]
        refine ⟨fun x hx => ?_, ?_⟩
        · rw [i1 x hx, cro_succ]
          constructor
          · rintro a (c | ⟨c, _⟩)
            · exact a c
            · exact hp c
          · intro c z
            exact c (.inl z)
        · rw [i2, List.filter_cons, if_neg (fun z => hp (isp_iff.mp z))]
          simp
theorem prs_rg (N : Nat) : prs N = (rg 2 (N + 1)).filter isp := by
  have e : List.range (N + 1) = rg 0 (N + 1) := by unfold rg; simp
  unfold prs
  rw [e]
  by_cases h : N = 0
  · subst h; rfl
  · rw [rg_cons (by omega), rg_cons (by omega)]
    have i0 : isp 0 = false := rfl
    have i1 : isp 1 = false := rfl
    rw [List.filter_cons, List.filter_cons, i0, i1]
    rfl
abbrev prB : DS := (sIf (dTest (dOp gIx (dOwn 2) (dVar 1)))
    (sSeq (sExpr (dMut 3 mAppend (aCons (dVar 1) aNil)))
    (sFor (iFn range3 (aCons (dOp gMul (dVar 1) (dVar 1)) (aCons (dOp gAdd (dVar 0) (dC (.int 1))) (aCons (dVar 1) aNil)))) (gN 4)
    (sSetIx 2 (dC (.bl false)) (dVar 4))))
    sNil)
theorem pr_step {N m : Nat} {kn : Nat → Bool} {fd : List Nat} {v : Option D} (hN : N ≤ 100000) (hm : 2 ≤ m) (hm2 : m ≤ N) (hf : fd.length ≤ N) :
    ∃ v', prB [some (.int (N : Nat)), some (.int (m : Nat)), some (.lst (tb N fun x => .bl (kn x))), some (.lst (tn fd)), v] = .nx [some (.int (N : Nat)), some (.int (m : Nat)), some (.lst (tb N fun x => .bl ((sivs N (kn, fd) m).1 x))), some (.lst (tn (sivs N (kn, fd) m).2)), v'] := by
  have hg : gIx (.lst (tb N fun x => .bl (kn x))) (.int (m : Nat)) = some (.bl (kn m)) := tb_ix hm2
  cases hk : kn m with
  | false =>
    rw [hk] at hg
    have e : sivs N (kn, fd) m = (kn, fd) := by unfold sivs; simp [hk]
    rw [e]
    refine ⟨v, ?_⟩
    unfold prB
    generalize (sFor _ _ _) = F
    simp only [sIf, dTest, dOp, dOwn, dVar, look0, lookS, rd_slot, rd_val, unfz_lst, hg, sNil]
  | true =>
    rw [hk] at hg
    have e : sivs N (kn, fd) m = (siv N kn m, fd ++ [m]) := by unfold sivs; simp [hk]
    rw [e]
    obtain ⟨v', hv⟩ := siv_in (N := N) (m := m) (kn := kn) (x0 := some (.int (N : Nat))) (x1 := some (.int (m : Nat))) (x3 := some (.lst (tn (fd ++ [m])))) (v := v) hm
    refine ⟨v', ?_⟩
    have ha := mAppend_ok (xs := tn fd) (y := .int (m : Nat)) (by simp; omega)
    have ea : tn fd ++ [.int (m : Nat)] = tn (fd ++ [m]) := by simp [tn]
    have h1 := gMul_n (a := m) (b := m) (by omega)
    have h2 : gAdd (.int (N : Nat)) (.int 1) = some (.int ((N + 1 : Nat) : Int)) := gAdd_n (a := N) (b := 1)
    have h3 := range3_ok (m := m) (N := N) hm (by omega) hN
    unfold prB
    have hf : (sFor (iFn range3 (aCons (dOp gMul (dVar 1) (dVar 1)) (aCons (dOp gAdd (dVar 0) (dC (.int 1))) (aCons (dVar 1) aNil)))) (gN 4) (sSetIx 2 (dC (.bl false)) (dVar 4))) [some (.int (N : Nat)), some (.int (m : Nat)), some (.lst (tb N fun x => .bl (kn x))), some (.lst (tn (fd ++ [m]))), v] = .nx [some (.int (N : Nat)), some (.int (m : Nat)), some (.lst (tb N fun x => .bl (siv N kn m x))), some (.lst (tn (fd ++ [m]))), v'] := by
      unfold sFor
      generalize hL : forL (gN 4) (sSetIx 2 (dC (.bl false)) (dVar 4)) = L at hv ⊢
      simp only [iFn, aCons, aNil, dOp, dVar, dC, look0, lookS, rd_val, h1, h2, rds, h3, hv]
    generalize (sFor _ _ _) = F at hf ⊢
    simp only [sIf, dTest, dOp, dOwn, dVar, look0, lookS, rd_slot, rd_val, unfz_lst, hg, sSeq, sExpr, dMut, aCons, aNil, clean, rds, Option.map_some, ha, ea, List.set_cons_succ, List.set_cons_zero, hf]
theorem sivs_len {N : Nat} {s : (Nat → Bool) × List Nat} {m : Nat} : (sivs N s m).2.length ≤ s.2.length + 1 := by
  unfold sivs
  split
  · simp
  · omega
abbrev prL : DS := sFor (iFn range2 (aCons (dC (.int 2)) (aCons (dOp gAdd (dVar 0) (dC (.int 1))) aNil))) (gN 1) prB
theorem pr_fold {N : Nat} : ((rg 2 (N + 1)).foldl (sivs N) (fun _ => true, [])).2 = prs N := by
  by_cases h : N = 0
  · subst h; rfl
  · rw [(sivs_inv (N := N) (N + 1) (by omega) (by omega)).2, prs_rg]
theorem pr_loop {N : Nat} (hN : N ≤ 100000) : ∃ v1 v2 v4, prL [some (.int (N : Nat)), none, some (.lst (tb N fun _ => .bl true)), some (.lst []), none] = .nx [some (.int (N : Nat)), v1, v2, some (.lst (tn (prs N))), v4] := by
  obtain ⟨env', q1, q2⟩ := forL_foldR (g := gN 1) (b := prB)
    (fun rem (s : (Nat → Bool) × List Nat) env => (∀ y ∈ rem, 2 ≤ y ∧ y ≤ N) ∧ s.2.length + rem.length ≤ N ∧ ∃ v1 v, env = [some (.int (N : Nat)), v1, some (.lst (tb N fun x => .bl (s.1 x))), some (.lst (tn s.2)), v]) (sivs N) (fun x r s env ⟨h1, hl, v1, v, he⟩ => by
      subst he
      obtain ⟨hx, hx2⟩ := h1 x (List.mem_cons_self ..)
      rw [List.length_cons] at hl
      obtain ⟨v', hv⟩ := pr_step (N := N) (m := x) (kn := s.1) (fd := s.2) (v := v) hN hx hx2 (by omega)
      exact ⟨_, _, rfl, hv, fun y hy => h1 y (List.mem_cons_of_mem _ hy), by have := sivs_len (N := N) (s := s) (m := x); omega, _, v', rfl⟩) (rg 2 (N + 1)) (fun _ => true, []) [some (.int (N : Nat)), none, some (.lst (tb N fun _ => .bl true)), some (.lst []), none]
      ⟨fun y hy => by have := rg_mem.mp hy; omega, by simp, none, none, rfl⟩
  obtain ⟨_, _, v1, v, he⟩ := q2
  rw [pr_fold] at he
  generalize (some (D.lst (tb N fun x => D.bl (((rg 2 (N + 1)).foldl (sivs N) (fun _ => true, [])).1 x)))) = z at he
  refine ⟨v1, z, v, ?_⟩
  rw [he] at q1
  have h2 : gAdd (.int (N : Nat)) (.int 1) = some (.int ((N + 1 : Nat) : Int)) := gAdd_n (a := N) (b := 1)
  have h4 : range2 [.int 2, .int ((N + 1 : Nat) : Int)] = some (tn (rg 2 (N + 1))) := range2_n (a := 2) (b := N + 1) (by omega) (by omega)
  unfold prL sFor
  generalize forL (gN 1) prB = L at q1 ⊢
  simp only [iFn, aCons, aNil, dOp, dVar, dC, look0, lookS, rd_val, h2, rds, h4, q1]
/-! big steps -/
theorem seq_nx {a b : DS} {env e : Dn.Env} {r : RS} (h1 : a env = .nx e) (h2 : b e = r) : sSeq a b env = r := by unfold sSeq; rw [h1]; exact h2
theorem run_slot {n i : Nat} {b : DS} {ds : List D} {env e : Dn.Env} {xs : List D} (he : ds.map some ++ List.replicate (n - ds.length) none = env) (h : b env = .rt (.slot i) e) (hl : look e i = some (.lst xs)) : runF n false b ds = .rn (.lst xs) .non := by
  unfold runF
  rw [he, h]
  dsimp only [Bool.false_and]
  rw [hl]
  rfl
theorem run_val {n : Nat} {b : DS} {ds : List D} {env e : Dn.Env} {d : D} (he : ds.map some ++ List.replicate (n - ds.length) none = env) (h : b env = .rt (.val d) e) : runF n false b ds = .ok d .non := by
  unfold runF
  rw [he, h]
  rfl
theorem run_rn {n : Nat} {b : DS} {ds : List D} {env e : Dn.Env} {d : D} (he : ds.map some ++ List.replicate (n - ds.length) none = env) (h : b env = .rn d e) : runF n false b ds = .rn d .non := by
  unfold runF
  rw [he, h]
  rfl
theorem run_nx {n : Nat} {b : DS} {ds : List D} {env e : Dn.Env} (he : ds.map some ++ List.replicate (n - ds.length) none = env) (h : b env = .nx e) : runF n false b ds = .ok .non .non := by
  unfold runF
  rw [he, h]
  rfl
theorem run_ex {n : Nat} {b : DS} {ds : List D} {env e : Dn.Env} {x : Ex} (he : ds.map some ++ List.replicate (n - ds.length) none = env) (h : b env = .ex x e) : runF n false b ds = .ex x .non := by
  unfold runF
  rw [he, h]
  rfl
theorem ret_own {i : Nat} {env : Dn.Env} {xs : List D} (h : look env i = some (.lst xs)) : sRet (dOwn i) env = .rt (.slot i) env := by unfold sRet dOwn; rw [h]
theorem ret_val {a : DE} {env e : Dn.Env} {d : D} (h : a env = .ok (.val d) e) : sRet a env = .rt (.val d) e := by unfold sRet; rw [h]
theorem set_val {i : Nat} {a : DE} {env e : Dn.Env} {d : D} (h : a env = .ok (.val d) e) : sSet i a env = .nx (e.set i (some d)) := by unfold sSet; rw [h]
theorem op_val {g : D → D → Option D} {a b : DE} {env e1 e2 : Dn.Env} {x y : Rv} {dx dy d : D} (h1 : a env = .ok x e1) (h2 : b e1 = .ok y e2) (r1 : rd e2 x = some dx) (r2 : rd e2 y = some dy) (h : g dx dy = some d) : dOp g a b env = .ok (.val d) e2 := by
  unfold dOp
  rw [h1]
  dsimp only
  rw [h2]
  dsimp only
  rw [r1, r2]
  dsimp only
  rw [h]
theorem pcons_val {a : DE} {r : DAF} {env e1 e2 : Dn.Env} {d : D} {ds : List D} (h1 : a env = .ok (.val d) e1) (h2 : r e1 = .ok ds e2) : pCons a r env = .ok (d :: ds) e2 := by
  unfold pCons
  rw [h1]
  dsimp only
  rw [h2]
theorem par_nx {is : List Nat} {a : DAF} {env e e2 : Dn.Env} {ds : List D} (h : a env = .ok ds e) (h2 : setsE e is ds = e2) : sPar is a env = .nx e2 := by
  unfold sPar
  rw [h]
  dsimp only
  rw [h2]
theorem for_nx {it : DI} {g : DG} {b : DS} {env e e2 : Dn.Env} {xs : List D} (h1 : it env = .ok xs e) (h2 : forL g b xs e = .nx e2) : sFor it g b env = .nx e2 := by unfold sFor; rw [h1]; exact h2
theorem primes_to_ok {N : Nat} (hN : N ≤ 100000) : d_primes_to [.int (N : Nat)] = .rn (.lst (tn (prs N))) .non := by
  obtain ⟨v1, v2, v4, hf⟩ := pr_loop hN
  have h2 : gAdd (.int (N : Nat)) (.int 1) = some (.int ((N + 1 : Nat) : Int)) := gAdd_n (a := N) (b := 1)
  have h3 : gRep (.lst [.bl true]) (.int ((N + 1 : Nat) : Int)) = some (.lst (tb N fun _ => .bl true)) := by rw [gRep_n (by omega), ← rep_flat, rep_tb]
  have l0 : dDisp D.lst aNil = fun env => .ok (.val (.lst [])) env := by funext env; rfl
  have l1 : dDisp D.lst (aCons (dC (.bl true)) aNil) = fun env => .ok (.val (.lst [.bl true])) env := by funext env; rfl
  refine run_slot (b := b_primes_to) (i := 3) (env := [some (.int (N : Nat)), none, none, none, none]) rfl (seq_nx (e := [some (.int (N : Nat)), none, some (.lst (tb N fun _ => .bl true)), some (.lst []), none]) ?_ (seq_nx hf (ret_own (xs := tn (prs N)) rfl))) rfl
  rw [l0, l1]
  have ho : dOp gRep (fun env => .ok (.val (.lst [.bl true])) env) (dOp gAdd (dVar 0) (dC (.int 1))) [some (.int (N : Nat)), none, none, none, none] = .ok (.val (.lst (tb N fun _ => .bl true))) [some (.int (N : Nat)), none, none, none, none] := op_val rfl (op_val rfl rfl rfl rfl h2) rfl rfl h3
  exact par_nx (pcons_val ho (pcons_val rfl rfl)) rfl
end Pu

/-! table_to, greatest, lot_of, rises -/
namespace Pu
open PySem Dn Lr L2 Ci Np
theorem fn1_val {g : List D → Option D} {a : DE} {env e1 : Dn.Env} {x : Rv} {dx d : D} (h1 : a env = .ok x e1) (r1 : rd e1 x = some dx) (h : g [dx] = some d) : dFn g (aCons a aNil) env = .ok (.val d) e1 := by
  unfold dFn aCons
  rw [h1]
  dsimp only [aNil]
  have : rds e1 [x] = some [dx] := by unfold rds; rw [r1]; rfl
  rw [this]
  dsimp only
  rw [h]
theorem fn2_val {g : List D → Option D} {a b : DE} {env e1 e2 : Dn.Env} {x y : Rv} {dx dy d : D} (h1 : a env = .ok x e1) (h2 : b e1 = .ok y e2) (r1 : rd e2 x = some dx) (r2 : rd e2 y = some dy) (h : g [dx, dy] = some d) : dFn g (aCons a (aCons b aNil)) env = .ok (.val d) e2 := by
  unfold dFn aCons
  rw [h1]
  dsimp only
  rw [h2]
  dsimp only [aNil]
  have : rds e2 [x, y] = some [dx, dy] := by
    simp only [rds, r1, r2]
  rw [this]
  dsimp only
  rw [h]
theorem setIx_nx {i : Nat} {v ix : DE} {env e1 e2 : Dn.Env} {d dl : D} {rk : Rv} {k : Int} {xs : List D} {j : Nat} (h1 : v env = .ok (.val d) e1) (h2 : look e1 i = some dl) (h3 : ix e1 = .ok rk e2) (h4 : rd e2 rk = some (.int k)) (h5 : look e2 i = some (.lst xs)) (h6 : ixN xs.length k = some j) : sSetIx i v ix env = .nx (e2.set i (some (.lst (xs.set j d)))) := by
  unfold sSetIx
  rw [h1]
  dsimp only
  rw [h2]
  dsimp only
  rw [h3]
  dsimp only
  rw [h4]
  dsimp only
  rw [h5]
  dsimp only
  rw [h6]
theorem test_op {g : D → D → Option D} {a b : DE} {env e1 e2 : Dn.Env} {x y : Rv} {dx dy : D} {c : Bool} (h1 : a env = .ok x e1) (h2 : b e1 = .ok y e2) (r1 : rd e2 x = some dx) (r2 : rd e2 y = some dy) (h : g dx dy = some (.bl c)) : dTest (dOp g a b) env = .ok c e2 := by
  unfold dTest
  rw [op_val h1 h2 r1 r2 h]
  rfl
theorem bMax_n {a b : Nat} : bMax [.int (a : Nat), .int (b : Nat)] = some (.int ((max a b : Nat) : Int)) := by
  show some (D.int (if ((b : Nat) : Int) > (a : Nat) then (b : Nat) else (a : Nat))) = _
  congr 2
  by_cases h : a < b
  · rw [if_pos (by omega), Nat.max_eq_right (by omega)]
  · rw [if_neg (by omega), Nat.max_eq_left (by omega)]
theorem gSub_n {a b : Nat} (h : b ≤ a) : gSubt (.int (a : Nat)) (.int (b : Nat)) = some (.int ((a - b : Nat) : Int)) := by
  rw [gSubt_i]
  congr 2
  omega
/-! the while -/
def wc (p m : Nat) (s : Nat × Nat) : Bool := decide (p ^ (s.2 + 1) ≤ m)
def wf (p m : Nat) (b : Nat → Nat) (s : Nat × Nat) : Nat × Nat := (max s.1 (b (m - p ^ (s.2 + 1)) * p ^ (s.2 + 1)), s.2 + 1)
theorem w_iter {p m : Nat} {b : Nat → Nat} (hp : 2 ≤ p) : ∀ k, (iterN (stepc (wc p m) (wf p m b)) k (b m, 0)).1 = upE p b m k ∧ (iterN (stepc (wc p m) (wf p m b)) k (b m, 0)).2 ≤ k ∧ ((iterN (stepc (wc p m) (wf p m b)) k (b m, 0)).2 = k ∨ wc p m (iterN (stepc (wc p m) (wf p m b)) k (b m, 0)) = false)
  | 0 => ⟨rfl, Nat.le_refl _, .inl rfl⟩
  | k + 1 => by
    obtain ⟨h1, h2, h3⟩ := w_iter (p := p) (m := m) (b := b) hp k
    rw [iterN_succ]
    generalize iterN (stepc (wc p m) (wf p m b)) k (b m, 0) = s at h1 h2 h3 ⊢
    unfold stepc
    cases hc : wc p m s with
    | true =>
      have e : s.2 = k := h3.resolve_right (by rw [hc]; decide)
      have hle : p ^ (k + 1) ≤ m := by rw [← e]; exact of_decide_eq_true hc
      refine ⟨?_, ?_, .inl ?_⟩
      · show max s.1 (b (m - p ^ (s.2 + 1)) * p ^ (s.2 + 1)) = upE p b m (k + 1)
        unfold upE
        rw [if_pos hle, h1, e]
      · show s.2 + 1 ≤ k + 1; omega
      · show s.2 + 1 = k + 1; omega
    | false =>
      have hgt : ¬ p ^ (s.2 + 1) ≤ m := of_decide_eq_false hc
      have : p ^ (s.2 + 1) ≤ p ^ (k + 1) := Nat.pow_le_pow_right (by omega) (by omega)
      refine ⟨?_, by show s.2 ≤ k + 1; omega, .inr hc⟩
      show s.1 = upE p b m (k + 1)
      unfold upE
      rw [if_neg (by omega), h1]
theorem w_end {p m : Nat} {b : Nat → Nat} (hp : 2 ≤ p) (hm : m ≤ 4000) : wc p m (iterN (stepc (wc p m) (wf p m b)) 12 (b m, 0)) = false := by
  obtain ⟨_, h2, h3⟩ := w_iter (p := p) (m := m) (b := b) hp 12
  rcases h3 with h | h
  · generalize iterN (stepc (wc p m) (wf p m b)) 12 (b m, 0) = s at h ⊢
    unfold wc
    rw [h]
    have : 2 ^ 13 ≤ p ^ 13 := Nat.pow_le_pow_left hp 13
    exact decide_eq_false (by show ¬ p ^ 13 ≤ m; omega)
  · exact h
abbrev twT : DT := dTest (dOp gLe (dVar 4) (dVar 3))
abbrev twB : DS := sSeq (sSetIx 1 (dFn bMax (aCons (dOp gIx (dOwn 1) (dVar 3)) (aCons (dOp gMul (dOp gIx (dOwn 1) (dOp gSubt (dVar 3) (dVar 4))) (dVar 4)) aNil))) (dVar 3)) (sSet 4 (dOp gMul (dVar 4) (dVar 2)))
theorem tw_ok {N p m : Nat} {t : Nat → Nat} {x0 : Option D} {b : Nat → Nat} (hN : N ≤ 2000) (hp : 2 ≤ p) (hp2 : p ≤ N) (hm : m ≤ N) (hb : ∀ x, x ≤ m → t x = b x) :
    ∃ v, whl twT twB WF [x0, some (.lst (tb N fun x => .int (t x : Nat))), some (.int (p : Nat)), some (.int (m : Nat)), some (.int (p : Nat))] = .nx [x0, some (.lst (tb N fun x => .int ((if x = m then up b p m else t x : Nat) : Int))), some (.int (p : Nat)), some (.int (m : Nat)), v] := by
  obtain ⟨env', q1, q2⟩ := whl_sim (t := twT) (b := twB) (fun (s : Nat × Nat) env => s.2 ≤ 12 ∧ env = [x0, some (.lst (tb N fun x => .int ((if x = m then s.1 else t x : Nat) : Int))), some (.int (p : Nat)), some (.int (m : Nat)), some (.int ((p ^ (s.2 + 1) : Nat) : Int))]) (wc p m) (wf p m b) (fun s env he => by
    obtain ⟨hs, rfl⟩ := he
    refine ⟨test_op rfl rfl rfl rfl gLe_n, fun hc => ?_⟩
    have hle : p ^ (s.2 + 1) ≤ m := of_decide_eq_true hc
    have hpos : 0 < p ^ (s.2 + 1) := Nat.pow_pos (by omega)
    have hs2 : s.2 + 1 ≤ 12 := by
      by_cases z : s.2 + 1 ≤ 12
      · exact z
      · have : 2 ^ 13 ≤ p ^ (s.2 + 1) := Nat.le_trans (Nat.pow_le_pow_left hp 13) (Nat.pow_le_pow_right (by omega) (by omega))
        omega
    have i1 := tb_ix (f := fun x => D.int ((if x = m then s.1 else t x : Nat) : Int)) hm
    rw [if_pos rfl] at i1
    have i2 := tb_ix (f := fun x => D.int ((if x = m then s.1 else t x : Nat) : Int)) (show m - p ^ (s.2 + 1) ≤ N by omega)
    rw [if_neg (by omega), hb _ (by omega)] at i2
    have m1 := gMul_n (a := b (m - p ^ (s.2 + 1))) (b := p ^ (s.2 + 1)) (by omega)
    have m2 := gMul_n (a := p ^ (s.2 + 1)) (b := p) (by omega)
    refine ⟨_, seq_nx (setIx_nx (fn2_val (op_val rfl rfl rfl rfl i1) (op_val (op_val rfl (op_val rfl rfl rfl rfl (gSub_n hle)) rfl rfl i2) rfl rfl rfl m1) rfl rfl bMax_n) rfl rfl rfl rfl (tb_ixN hm)) (set_val (op_val rfl rfl rfl rfl m2)), hs2, ?_⟩
    rw [tb_set hm]
    have e : tb N (fun x => if x = m then D.int ((max s.1 (b (m - p ^ (s.2 + 1)) * p ^ (s.2 + 1)) : Nat) : Int) else D.int ((if x = m then s.1 else t x : Nat) : Int)) = tb N fun x => .int ((if x = m then (wf p m b s).1 else t x : Nat) : Int) := tb_congr fun x _ => by
      by_cases z : x = m
      · simp [z, wf]
      · simp [z]
    rw [e]
    rfl) 12 (b m, 0) _ WF ⟨by omega, rfl⟩ (w_end hp (by omega)) (by decide)
  obtain ⟨_, he⟩ := q2
  have h0 : tb N (fun x => D.int ((if x = m then b m else t x : Nat) : Int)) = tb N fun x => .int (t x : Nat) := tb_congr fun x _ => by
    by_cases z : x = m
    · simp [z, hb m (by omega)]
    · simp [z]
  have h1 : (iterN (stepc (wc p m) (wf p m b)) 12 (b m, 0)).1 = up b p m := (w_iter hp 12).1
  rw [h1] at he
  rw [show p ^ ((b m, 0).2 + 1) = p from Nat.pow_one p, h0] at q1
  exact ⟨_, by rw [q1, he]⟩
/-! the loops -/
theorem prog_down (a : Nat) : ∀ n : Nat, n ≤ a + 1 → prog (a : Nat) (-1) n = tn (rg (a + 1 - n) (a + 1)).reverse
  | 0, _ => by rw [rg_nil (by omega)]; rfl
  | n + 1, h => by
    show D.int (a : Nat) :: prog ((a : Nat) + (-1)) (-1) n = _
    rw [rg_snoc (by omega), List.reverse_append]
    show _ = D.int (a : Nat) :: tn (rg (a + 1 - (n + 1)) a).reverse
    congr 1
    cases a with
    | zero =>
      have : n = 0 := by omega
      subst this
      rw [rg_nil (by omega)]
      rfl
    | succ a =>
      rw [show (((a + 1 : Nat) : Int) + (-1)) = ((a : Nat) : Int) from by omega, prog_down a n (by omega)]
      rw [show a + 1 + 1 - (n + 1) = a + 1 - n by omega]
theorem gRev_n {a b : Nat} (h : a ≤ b) (hb : b < 2 ^ 61) : gRev (.int (a : Nat)) (.int ((b + 1 : Nat) : Int)) = some (tn (rg a (b + 1)).reverse) := by
  show (if (big (a : Nat) && big ((b + 1 : Nat) : Int)) = true then some (prog ((a : Nat) + (((((b + 1 : Nat) : Int) - (a : Nat)).toNat : Nat) : Int) - 1) (-1) (((b + 1 : Nat) : Int) - (a : Nat)).toNat) else none) = _
  have e : (((b + 1 : Nat) : Int) - (a : Nat)).toNat = b + 1 - a := by omega
  have e2 : ((a : Nat) : Int) + ((b + 1 - a : Nat) : Int) - 1 = ((b : Nat) : Int) := by omega
  have b1 : big (a : Nat) = true := by unfold big; exact decide_eq_true (by simp; omega)
  have b2 : big ((b + 1 : Nat) : Int) = true := by unfold big; exact decide_eq_true (by show b + 1 < 2 ^ 62; omega)
  rw [b1, b2, e, e2, prog_down b (b + 1 - a) (by omega)]
  rw [show b + 1 - (b + 1 - a) = a by omega]
  rfl
theorem two_ok {g : D → D → Option (List D)} {a b : DE} {env e1 e2 : Dn.Env} {x y : Rv} {dx dy : D} {xs : List D} (h1 : a env = .ok x e1) (h2 : b e1 = .ok y e2) (r1 : rd e2 x = some dx) (r2 : rd e2 y = some dy) (h : g dx dy = some xs) : iTwo g a b env = .ok xs e2 := by
  unfold iTwo
  rw [h1]
  dsimp only
  rw [h2]
  dsimp only
  rw [r1, r2]
  dsimp only
  rw [h]
abbrev tmB : DS := sSeq (sSet 4 (dVar 2)) (whl twT twB WF)
abbrev tmL : DS := sFor (iTwo gRev (dVar 2) (dOp gAdd (dVar 0) (dC (.int 1)))) (gN 3) tmB
theorem tm_ok {N p : Nat} {b : Nat → Nat} {v3 v4 : Option D} (hN : N ≤ 2000) (hp : 2 ≤ p) (hp2 : p ≤ N) :
    ∃ v3' v4', tmL [some (.int (N : Nat)), some (.lst (tb N fun x => .int (b x : Nat))), some (.int (p : Nat)), v3, v4] = .nx [some (.int (N : Nat)), some (.lst (tb N fun x => .int (up b p x : Nat))), some (.int (p : Nat)), v3', v4'] := by
  obtain ⟨env', q1, q2⟩ := forL_inv (g := gN 3) (b := tmB) (fun rem env => ∃ m, rem = tn (rg p m).reverse ∧ p ≤ m ∧ m ≤ N + 1 ∧ ∃ v3 v4, env = [some (.int (N : Nat)), some (.lst (tb N fun x => .int ((if m ≤ x then up b p x else b x : Nat) : Int))), some (.int (p : Nat)), v3, v4]) (fun x r env ⟨m, hr, h1, h2, v3, v4, he⟩ => by
    subst he
    by_cases hm : m = p
    · subst hm
      rw [rg_nil (Nat.le_refl _)] at hr
      cases hr
    · obtain ⟨k, rfl⟩ : ∃ k, m = k + 1 := ⟨m - 1, by omega⟩
      rw [rg_snoc (by omega), List.reverse_append] at hr
      have hr2 : x :: r = D.int (k : Nat) :: tn (rg p k).reverse := hr
      cases hr2
      obtain ⟨v, hv⟩ := tw_ok (N := N) (p := p) (m := k) (t := fun x => if k + 1 ≤ x then up b p x else b x) (x0 := some (.int (N : Nat))) (b := b) hN hp hp2 (by omega) (fun x hx => by rw [if_neg (by omega)])
      refine ⟨_, _, rfl, seq_nx (set_val rfl) hv, k, rfl, by omega, by omega, some (.int (k : Nat)), v, ?_⟩
      have e : tb N (fun x => D.int ((if x = k then up b p k else if k + 1 ≤ x then up b p x else b x : Nat) : Int)) = tb N fun x => .int ((if k ≤ x then up b p x else b x : Nat) : Int) := tb_congr fun x _ => by
        by_cases z : x = k
        · subst z; simp
        · by_cases z2 : k + 1 ≤ x
          · simp [z, z2, show k ≤ x by omega]
          · simp [z, z2, show ¬ k ≤ x by omega]
      rw [e]) (tn (rg p (N + 1)).reverse) [some (.int (N : Nat)), some (.lst (tb N fun x => .int (b x : Nat))), some (.int (p : Nat)), v3, v4] ⟨N + 1, rfl, by omega, by omega, v3, v4, by
        have e : tb N (fun x => D.int ((if N + 1 ≤ x then up b p x else b x : Nat) : Int)) = tb N fun x => .int (b x : Nat) := tb_congr fun x hx => by rw [if_neg (by omega)]
        rw [e]⟩
  obtain ⟨m, hr, h1, h2, v3', v4', rfl⟩ := q2
  have hm : m = p := by
    by_cases z : m = p
    · exact z
    · have := congrArg List.length hr
      simp at this
      omega
  subst hm
  have e : tb N (fun x => D.int ((if m ≤ x then up b m x else b x : Nat) : Int)) = tb N fun x => .int (up b m x : Nat) := tb_congr fun x hx => by
    by_cases z : m ≤ x
    · rw [if_pos z]
    · rw [if_neg z]
      unfold up
      rw [upE_big hp (by omega)]
  rw [e] at q1
  exact ⟨v3', v4', for_nx (two_ok rfl (op_val rfl rfl rfl rfl (gAdd_n (a := N) (b := 1))) rfl rfl (gRev_n hp2 (by omega))) q1⟩
theorem args1 {a : DE} {env e : Dn.Env} {x : Rv} (h : a env = .ok x e) : aCons a aNil env = .ok [x] e := by unfold aCons; rw [h]; rfl
theorem args2 {a b : DE} {env e1 e2 : Dn.Env} {x y : Rv} (h1 : a env = .ok x e1) (h2 : b e1 = .ok y e2) : aCons a (aCons b aNil) env = .ok [x, y] e2 := by
  unfold aCons
  rw [h1]
  dsimp only
  rw [h2]
  rfl
theorem args3 {a b c : DE} {env e1 e2 e3 : Dn.Env} {x y z : Rv} (h1 : a env = .ok x e1) (h2 : b e1 = .ok y e2) (h3 : c e2 = .ok z e3) : aCons a (aCons b (aCons c aNil)) env = .ok [x, y, z] e3 := by
  unfold aCons
  rw [h1]
  dsimp only
  rw [h2]
  dsimp only
  rw [h3]
  rfl
theorem call_rn {df : DF} {a : DA} {env e : Dn.Env} {ds : List D} {xs : List Rv} {d o : D} (h1 : a env = .ok xs e) (hc : clean xs = some ds) (h : df ds = .rn d o) : dCall df a env = .ok (.val d) e := by
  unfold dCall
  rw [h1]
  dsimp only
  rw [hc]
  dsimp only
  rw [h]
theorem call_ok {df : DF} {a : DA} {env e : Dn.Env} {ds : List D} {xs : List Rv} {d o : D} (h1 : a env = .ok xs e) (hc : clean xs = some ds) (h : df ds = .ok d o) : dCall df a env = .ok (.val d) e := by
  unfold dCall
  rw [h1]
  dsimp only
  rw [hc]
  dsimp only
  rw [h]
theorem call_ex {df : DF} {a : DA} {env e : Dn.Env} {ds : List D} {xs : List Rv} {o : D} {x : Ex} (h1 : a env = .ok xs e) (hc : clean xs = some ds) (h : df ds = .ex x o) : dCall df a env = .ex x e := by
  unfold dCall
  rw [h1]
  dsimp only
  rw [hc]
  dsimp only
  rw [h]
theorem any_lst {a : DE} {env e : Dn.Env} {xs : List D} (h : a env = .ok (.val (.lst xs)) e) : iAny a env = .ok xs e := by unfold iAny; rw [h]
theorem any_tup {a : DE} {env e : Dn.Env} {xs : List D} (h : a env = .ok (.val (.tup xs)) e) : iAny a env = .ok xs e := by unfold iAny; rw [h]
theorem expr_nx {a : DE} {env e : Dn.Env} {r : Rv} (h : a env = .ok r e) : sExpr a env = .nx e := by unfold sExpr; rw [h]
theorem tb_len2 {N : Nat} {f : Nat → D} : (tb N f).length = N + 1 := tb_len
def bt (N : Nat) : List D := tb N fun x => .int (best x : Nat)
theorem table_to_ok {N : Nat} (hN : N ≤ 2000) : d_table_to [.int (N : Nat)] = .rn (.lst (bt N)) .non := by
  obtain ⟨env', q1, q2⟩ := forL_fold (g := gN 2) (b := tmL) (fun (b : Nat → Nat) env => ∃ v2 v3 v4, env = [some (.int (N : Nat)), some (.lst (tb N fun x => .int (b x : Nat))), v2, v3, v4]) up (prs N) (fun _ => 1) [some (.int (N : Nat)), some (.lst (tb N fun _ => .int 1)), none, none, none] (fun x hx b env ⟨v2, v3, v4, he⟩ => by
    subst he
    obtain ⟨h1, h2⟩ := prs_mem.mp hx
    obtain ⟨v3', v4', h⟩ := tm_ok (N := N) (p := x) (b := b) (v3 := v3) (v4 := v4) hN h2.1 h1
    exact ⟨_, _, rfl, h, some (.int (x : Nat)), v3', v4', rfl⟩) ⟨none, none, none, rfl⟩
  obtain ⟨v2, v3, v4, he⟩ := q2
  have e : tb N (fun x => D.int (((prs N).foldl up (fun _ => 1) x : Nat) : Int)) = bt N := tb_congr fun x hx => by
    have : (prs N).foldl up (fun _ => 1) x = best x := tab_best hx
    rw [this]
  rw [e] at he
  rw [he] at q1
  have h2 : gAdd (.int (N : Nat)) (.int 1) = some (.int ((N + 1 : Nat) : Int)) := gAdd_n (a := N) (b := 1)
  have h3 : gRep (.lst [.int 1]) (.int ((N + 1 : Nat) : Int)) = some (.lst (tb N fun _ => .int 1)) := by rw [gRep_n (by omega), ← rep_flat, rep_tb]
  have l1 : dDisp D.lst (aCons (dC (.int 1)) aNil) [some (.int (N : Nat)), none, none, none, none] = .ok (.val (.lst [.int 1])) [some (.int (N : Nat)), none, none, none, none] := rfl
  exact run_slot (b := b_table_to) (i := 1) (env := [some (.int (N : Nat)), none, none, none, none]) rfl (seq_nx (set_val (op_val l1 (op_val rfl rfl rfl rfl h2) rfl rfl h3)) (seq_nx (for_nx (any_lst (call_rn (args1 rfl) rfl (primes_to_ok (by omega)))) q1) (ret_own (xs := bt N) rfl))) rfl
theorem if_true {t : DT} {a b : DS} {env e : Dn.Env} {r : RS} (h : t env = .ok true e) (h2 : a e = r) : sIf t a b env = r := by unfold sIf; rw [h]; exact h2
theorem if_false {t : DT} {a b : DS} {env e : Dn.Env} {r : RS} (h : t env = .ok false e) (h2 : b e = r) : sIf t a b env = r := by unfold sIf; rw [h]; exact h2
theorem not_tt {t : DT} {env e : Dn.Env} (h : t env = .ok true e) : dNot t env = .ok false e := by unfold dNot; rw [h]; rfl
theorem not_ff {t : DT} {env e : Dn.Env} (h : t env = .ok false e) : dNot t env = .ok true e := by unfold dNot; rw [h]; rfl
theorem test_val {a : DE} {env e : Dn.Env} {c : Bool} (h : a env = .ok (.val (.bl c)) e) : dTest a env = .ok c e := by unfold dTest; rw [h]; rfl
theorem check_cards_ok {n a b : Nat} (h1 : a ≤ n) (h2 : n ≤ b) : d_check_cards [.int (n : Nat), .int (a : Nat), .int (b : Nat)] = .ok .non .non := by
  have h : d_is_from [.int (n : Nat), .int (a : Nat), .int (b : Nat)] = .ok (.bl true) .non := by rw [is_from_i, decide_eq_true (by omega), decide_eq_true (by omega)]; rfl
  exact run_nx (b := b_check_cards) (env := [some (.int (n : Nat)), some (.int (a : Nat)), some (.int (b : Nat))]) rfl (if_false (not_tt (test_val (call_ok (args3 rfl rfl rfl) rfl h))) rfl)
theorem check_cards_no {v : D} {a b : Int} (h : d_is_from [v, .int a, .int b] = .ok (.bl false) .non) : d_check_cards [v, .int a, .int b] = .ex ⟨3, none⟩ .non :=
  run_ex (b := b_check_cards) (env := [some v, some (.int a), some (.int b)]) rfl (if_true (not_ff (test_val (call_ok (args3 rfl rfl rfl) rfl h))) rfl)
theorem bt_ix {N x : Nat} (h : x ≤ N) : gIx (.lst (bt N)) (.int (x : Nat)) = some (.int (best x : Nat)) := tb_ix h
theorem greatest_ok {n : Nat} (h : n ≤ 2000) : d_greatest [.int (n : Nat)] = .ok (.int (best n : Nat)) .non := by
  have hc := check_cards_ok (n := n) (a := 0) (b := 2000) (by omega) h
  exact run_val (b := b_greatest) (env := [some (.int (n : Nat))]) rfl (seq_nx (expr_nx (call_ok (args3 rfl rfl rfl) rfl hc)) (ret_val (op_val (call_rn (args1 rfl) rfl (table_to_ok h)) rfl rfl rfl (bt_ix (Nat.le_refl n)))))
theorem lot_of_ok {n : Nat} (h : n ≤ 2000) : d_lot_of [.int (n : Nat)] = .ok (.tup (tn (srt (powl (best n))))) .non := by
  have hc := check_cards_ok (n := n) (a := 0) (b := 2000) (by omega) h
  have hp := powers_of_ok (fine_best h (best_pos n))
  exact run_val (b := b_lot_of) (env := [some (.int (n : Nat))]) rfl (seq_nx (expr_nx (call_ok (args3 rfl rfl rfl) rfl hc)) (ret_val (fn1_val (call_rn (args1 (op_val (call_rn (args1 rfl) rfl (table_to_ok h)) rfl rfl rfl (bt_ix (Nat.le_refl n)))) rfl hp) rfl bTuple_l)))
/-- where the greatest round rises, up to n -/
def ris (n : Nat) : List Nat := (rg 1 (n + 1)).filter fun x => decide (best (x - 1) < best x)
theorem retN_val {a : DE} {env e : Dn.Env} {d : D} (h : a env = .ok (.val d) e) : sRetN a env = .rn d e := by unfold sRetN; rw [h]
theorem comp_nn {i : Nat} {it : DI} {t : DT} {e : DE} {env : Dn.Env} (xs : List Nat) (ft : Nat → Bool) (fe : Nat → D) (hit : it env = .ok (tn xs) env) (hi : i < env.length) (hl : xs.length ≤ 1000000)
    (h : ∀ x ∈ xs, t (env.set i (some (.int (x : Nat)))) = .ok (ft x) (env.set i (some (.int (x : Nat)))) ∧ (ft x = true → e (env.set i (some (.int (x : Nat)))) = .ok (.val (fe x)) (env.set i (some (.int (x : Nat)))))) :
    dComp [i] it (gN i) t e env = .ok (.val (.lst ((xs.filter ft).map fe))) env := by
  have := comp_pure (i := i) (it := it) (t := t) (e := e) (env := env) (tn xs) (fun d => match d with | .int k => ft k.toNat | _ => false) (fun d => match d with | .int k => fe k.toNat | _ => .non) hit hi (by simpa using hl) (fun d hd => by
    obtain ⟨x, hx, rfl⟩ := List.mem_map.mp hd
    exact h x hx)
  rw [this]
  congr 3
  unfold tn
  rw [List.filter_map, List.map_map]
  rfl
theorem fn_range2 {a b : DE} {env e1 e2 : Dn.Env} {x y : Nat} (h1 : a env = .ok (.val (.int (x : Nat))) e1) (h2 : b e1 = .ok (.val (.int (y : Nat))) e2) (hx : x < 2 ^ 62) (hy : y < 2 ^ 62) : iFn range2 (aCons a (aCons b aNil)) env = .ok (tn (rg x y)) e2 := by
  unfold iFn
  rw [args2 h1 h2]
  dsimp only
  have : rds e2 [Rv.val (.int (x : Nat)), Rv.val (.int (y : Nat))] = some [.int (x : Nat), .int (y : Nat)] := rfl
  rw [this]
  dsimp only
  rw [range2_n hx hy]
theorem fn_range1 {a : DE} {env e1 : Dn.Env} {x : Nat} (h1 : a env = .ok (.val (.int (x : Nat))) e1) (hx : x < 2 ^ 62) : iFn range1 (aCons a aNil) env = .ok (tn (List.range x)) e1 := by
  unfold iFn
  rw [args1 h1]
  dsimp only
  have : rds e1 [Rv.val (.int (x : Nat))] = some [.int (x : Nat)] := rfl
  rw [this]
  dsimp only
  rw [range1_n hx]
theorem ris_comp {N n i : Nat} {env : Dn.Env} {it : DI} {tc : Nat} (hn : n ≤ N) (hN : N ≤ 2000) (hi : i < env.length) (hit : it env = .ok (tn (rg 1 (n + 1))) env) (hta : ∀ x, look (env.set i (some (.int (x : Nat)))) tc = some (.lst (bt N))) (hi2 : ∀ x, look (env.set i (some (.int (x : Nat)))) i = some (.int (x : Nat))) :
    dComp [i] it (gN i) (dTest (dOp gGt (dOp gIx (dVar tc) (dVar i)) (dOp gIx (dVar tc) (dOp gSubt (dVar i) (dC (.int 1)))))) (dVar i) env = .ok (.val (.lst (tn (ris n)))) env := by
  have := comp_nn (i := i) (it := it) (t := dTest (dOp gGt (dOp gIx (dVar tc) (dVar i)) (dOp gIx (dVar tc) (dOp gSubt (dVar i) (dC (.int 1)))))) (e := dVar i) (env := env) (rg 1 (n + 1)) (fun x => decide (best (x - 1) < best x)) (fun x => .int (x : Nat)) hit hi (by simp; omega) (fun x hx => by
    obtain ⟨h1, h2⟩ := rg_mem.mp hx
    have v1 : dVar i (env.set i (some (.int (x : Nat)))) = .ok (.val (.int (x : Nat))) (env.set i (some (.int (x : Nat)))) := by unfold dVar; rw [hi2 x]
    have v2 : dVar tc (env.set i (some (.int (x : Nat)))) = .ok (.val (.lst (bt N))) (env.set i (some (.int (x : Nat)))) := by unfold dVar; rw [hta x]
    refine ⟨test_op (op_val v2 v1 rfl rfl (bt_ix (by omega))) (op_val v2 (op_val v1 rfl rfl rfl (gSub_n (a := x) (b := 1) h1)) rfl rfl (bt_ix (by omega))) rfl rfl gGt_n, fun _ => v1⟩)
  exact this
theorem rises_ok {n : Nat} (h : n ≤ 2000) : d_rises [.int (n : Nat)] = .rn (.lst (tn (ris n))) .non := by
  have hc := check_cards_ok (n := n) (a := 0) (b := 2000) (by omega) h
  refine run_rn (b := b_rises) (env := [some (.int (n : Nat)), none, none]) rfl (seq_nx (expr_nx (call_ok (args3 rfl rfl rfl) rfl hc)) (seq_nx (set_val (call_rn (args1 rfl) rfl (table_to_ok h))) (retN_val (ris_comp (N := n) (n := n) (Nat.le_refl n) h (by simp) (fn_range2 (x := 1) (y := n + 1) rfl (op_val rfl rfl rfl rfl (gAdd_n (a := n) (b := 1))) (by omega) (by omega)) (fun x => rfl) (fun x => rfl)))))
end Pu

/-! _law_powers, _law_table -/
namespace Pu
open PySem Dn Lr L2 Ci Np
theorem and_tt {s t : DT} {env e e2 : Dn.Env} {c : Bool} (h1 : s env = .ok true e) (h2 : t e = .ok c e2) : dAnd s t env = .ok c e2 := by unfold dAnd; rw [h1]; exact h2
theorem and_ff {s t : DT} {env e : Dn.Env} (h1 : s env = .ok false e) : dAnd s t env = .ok false e := by unfold dAnd; rw [h1]
theorem append_nx {i : Nat} {a : DE} {env e : Dn.Env} {d : D} {xs0 xs : List D} (h0 : look env i = some (.lst xs0)) (h1 : a env = .ok (.val d) e) (h2 : look e i = some (.lst xs)) (h3 : xs.length < 1000000) : sExpr (dMut i mAppend (aCons a aNil)) env = .nx (e.set i (some (.lst (xs ++ [d])))) := by
  have e1 := args1 h1
  have e2 := mAppend_ok (y := d) h3
  simp only [sExpr, dMut, h0, e1, clean, Option.map_some, h2, e2]
theorem set_to {i : Nat} {a : DE} {env e e2 : Dn.Env} {d : D} (h : a env = .ok (.val d) e) (h2 : e.set i (some d) = e2) : sSet i a env = .nx e2 := by rw [set_val h, h2]
/-! _law_powers -/
abbrev qiB : DS := sIf (dTest (dOp gEq (dOp gMod (dVar 3) (dVar 4)) (dC (.int 0)))) (sPar [3, 5] (pCons (dOp gDiv (dVar 3) (dVar 4)) (pCons (dOp gMul (dVar 5) (dVar 4)) pNil))) sNil
abbrev qiL : DS := sFor (iFn range1 (aCons (dC (.int 40)) aNil)) (gN 6) qiB
theorem qi_ok {x0 x1 x2 : Option D} {p l : Nat} {v6 : Option D} (hp : 2 ≤ p) (hp2 : p < 2 ^ 60) : ∃ v6', qiL [x0, x1, x2, some (.int (l : Nat)), some (.int (p : Nat)), some (.int (1 : Nat)), v6] = .nx [x0, x1, x2, some (.int ((inner p l).1 : Nat)), some (.int (p : Nat)), some (.int ((inner p l).2 : Nat)), v6'] := by
  obtain ⟨env', q1, q2⟩ := forL_sim (g := gN 6) (b := qiB) (fun (s : Nat × Nat) env => ∃ v6, env = [x0, x1, x2, some (.int (s.1 : Nat)), some (.int (p : Nat)), some (.int (s.2 : Nat)), v6]) (stepc (dvc p) (dvf p)) (tn (List.range 40)) (l, 1) [x0, x1, x2, some (.int (l : Nat)), some (.int (p : Nat)), some (.int (1 : Nat)), v6] (fun x hx s env ⟨v, he⟩ => by
    subst he
    have t : ∀ v, dTest (dOp gEq (dOp gMod (dVar 3) (dVar 4)) (dC (.int 0))) [x0, x1, x2, some (.int (s.1 : Nat)), some (.int (p : Nat)), some (.int (s.2 : Nat)), v] = .ok (dvc p s) [x0, x1, x2, some (.int (s.1 : Nat)), some (.int (p : Nat)), some (.int (s.2 : Nat)), v] := fun v => test_op (op_val rfl rfl rfl rfl (gMod_n (by omega))) rfl rfl rfl (gEq_n (a := s.1 % p) (b := 0))
    cases hc : dvc p s with
    | true =>
      have e : stepc (dvc p) (dvf p) s = dvf p s := by unfold stepc; rw [hc]; rfl
      rw [e]
      refine ⟨_, _, rfl, if_true (by have := t (some x); rw [hc] at this; exact this) (par_nx (pcons_val (op_val rfl rfl rfl rfl (gDiv_n (by omega) hp2)) (pcons_val (op_val rfl rfl rfl rfl (gMul_n hp2)) rfl)) rfl), some x, rfl⟩
    | false =>
      have e : stepc (dvc p) (dvf p) s = s := by unfold stepc; rw [hc]; rfl
      rw [e]
      exact ⟨_, _, rfl, if_false (by have := t (some x); rw [hc] at this; exact this) rfl, some x, rfl⟩) ⟨v6, rfl⟩
  obtain ⟨v6', he⟩ := q2
  have e : (tn (List.range 40)).length = 40 := by simp
  rw [e] at he
  exact ⟨v6', for_nx (fn_range1 (x := 40) rfl (by decide)) (by rw [q1, he]; rfl)⟩
abbrev qoB : DS := sIf (dAnd (dTest (dOp gGt (dVar 3) (dC (.int 1)))) (dTest (dOp gLe (dOp gMul (dVar 4) (dVar 4)) (dVar 3))))
    (sSeq (sSet 5 (dC (.int 1)))
    (sSeq qiL
    (sSeq (sIf (dTest (dOp gGt (dVar 5) (dC (.int 1))))
    (sExpr (dMut 2 mAppend (aCons (dVar 5) aNil)))
    sNil)
    (sSet 4 (dOp gAdd (dVar 4) (dC (.int 1)))))))
    sNil
theorem qo_step {n k : Nat} {s : Ps} {x0 x1 v5 v6 : Option D} (hf : Fine n) (h : PsI n k s) (hk : k ≤ 50000) : ∃ v5' v6', qoB [x0, x1, some (.lst (tn s.acc)), some (.int (s.left : Nat)), some (.int (s.part : Nat)), v5, v6] = .nx [x0, x1, some (.lst (tn (stepc psc psf s).acc)), some (.int ((stepc psc psf s).left : Nat)), some (.int ((stepc psc psf s).part : Nat)), v5', v6'] := by
  have hpt := h.pt
  have hpk := h.ptk
  have l0 : 0 < s.left := Nat.pos_of_dvd_of_pos h.dv hf.pos
  have m1 := gMul_n (a := s.part) (b := s.part) (by omega)
  have t2 : dTest (dOp gLe (dOp gMul (dVar 4) (dVar 4)) (dVar 3)) [x0, x1, some (.lst (tn s.acc)), some (.int (s.left : Nat)), some (.int (s.part : Nat)), v5, v6] = .ok (psc s) [x0, x1, some (.lst (tn s.acc)), some (.int (s.left : Nat)), some (.int (s.part : Nat)), v5, v6] := test_op (op_val rfl rfl rfl rfl m1) rfl rfl rfl gLe_n
  have t1 : dTest (dOp gGt (dVar 3) (dC (.int 1))) [x0, x1, some (.lst (tn s.acc)), some (.int (s.left : Nat)), some (.int (s.part : Nat)), v5, v6] = .ok (decide (1 < s.left)) [x0, x1, some (.lst (tn s.acc)), some (.int (s.left : Nat)), some (.int (s.part : Nat)), v5, v6] := test_op rfl rfl rfl rfl (gGt_n (a := s.left) (b := 1))
  cases hc : psc s with
  | false =>
    have e : stepc psc psf s = s := by unfold stepc; rw [hc]; rfl
    rw [hc] at t2
    rw [e]
    refine ⟨v5, v6, if_false (e := [x0, x1, some (.lst (tn s.acc)), some (.int (s.left : Nat)), some (.int (s.part : Nat)), v5, v6]) ?_ rfl⟩
    by_cases h1 : 1 < s.left
    · rw [decide_eq_true h1] at t1; exact and_tt t1 t2
    · rw [decide_eq_false h1] at t1; exact and_ff t1
  | true =>
    have e : stepc psc psf s = psf s := by unfold stepc; rw [hc]; rfl
    rw [hc] at t2
    rw [e]
    have hcc : s.part * s.part ≤ s.left := of_decide_eq_true hc
    have h1 : 1 < s.left := by
      have : 2 * 2 ≤ s.part * s.part := Nat.mul_le_mul hpt hpt
      omega
    rw [decide_eq_true h1] at t1
    have hp := psA hf h hc
    obtain ⟨w6, hq⟩ := qi_ok (x0 := x0) (x1 := x1) (x2 := some (.lst (tn s.acc))) (p := s.part) (l := s.left) (v6 := v6) hpt (by omega)
    have ln := h.ln
    have f1 : (psf s).acc = if 1 < (inner s.part s.left).2 then s.acc ++ [(inner s.part s.left).2] else s.acc := by simp only [psf]
    have f2 : (psf s).left = (inner s.part s.left).1 := by simp only [psf]
    have f3 : (psf s).part = s.part + 1 := by simp only [psf]
    rw [f1, f2, f3]
    generalize inner s.part s.left = r at hq ⊢
    have t3 : dTest (dOp gGt (dVar 5) (dC (.int 1))) [x0, x1, some (.lst (tn s.acc)), some (.int (r.1 : Nat)), some (.int (s.part : Nat)), some (.int (r.2 : Nat)), w6] = .ok (decide (1 < r.2)) [x0, x1, some (.lst (tn s.acc)), some (.int (r.1 : Nat)), some (.int (s.part : Nat)), some (.int (r.2 : Nat)), w6] := test_op rfl rfl rfl rfl (gGt_n (a := r.2) (b := 1))
    have a1 := gAdd_n (a := s.part) (b := 1)
    by_cases hr : 1 < r.2
    · rw [decide_eq_true hr] at t3
      rw [if_pos hr]
      have ea : tn (s.acc ++ [r.2]) = tn s.acc ++ [.int (r.2 : Nat)] := by simp [tn]
      rw [ea]
      exact ⟨some (.int (r.2 : Nat)), w6, if_true (and_tt t1 t2) (seq_nx (set_val rfl) (seq_nx hq (seq_nx (if_true t3 (append_nx (xs := tn s.acc) (d := .int (r.2 : Nat)) rfl rfl rfl (by simp; omega))) (set_to (op_val rfl rfl rfl rfl a1) rfl))))⟩
    · rw [decide_eq_false hr] at t3
      rw [if_neg hr]
      exact ⟨some (.int (r.2 : Nat)), w6, if_true (and_tt t1 t2) (seq_nx (set_val rfl) (seq_nx hq (seq_nx (if_false t3 rfl) (set_to (op_val rfl rfl rfl rfl a1) rfl))))⟩
theorem fold_iter {σ : Type} (g : σ → σ) : ∀ (xs : List Nat) (s : σ), xs.foldl (fun s _ => g s) s = iterN g xs.length s
  | [], _ => rfl
  | _ :: xs, s => by rw [List.foldl_cons, fold_iter g xs]; rfl
theorem qo_loop {n K : Nat} (hf : Fine n) (hK : K ≤ 50000) : ∃ x1 v5 v6, forL (gN 1) qoB (tn (List.range K)) [some (.int (n : Nat)), none, some (.lst []), some (.int (n : Nat)), some (.int 2), none, none] = .nx [some (.int (n : Nat)), x1, some (.lst (tn (iterN (stepc psc psf) K ⟨n, 2, []⟩).acc)), some (.int ((iterN (stepc psc psf) K ⟨n, 2, []⟩).left : Nat)), some (.int ((iterN (stepc psc psf) K ⟨n, 2, []⟩).part : Nat)), v5, v6] := by
  obtain ⟨env', q1, q2⟩ := forL_foldR (g := gN 1) (b := qoB) (fun rem (s : Ps) env => (∃ k, k + rem.length = K ∧ PsI n k s) ∧ ∃ x1 v5 v6, env = [some (.int (n : Nat)), x1, some (.lst (tn s.acc)), some (.int (s.left : Nat)), some (.int (s.part : Nat)), v5, v6]) (fun s _ => stepc psc psf s) (fun x r s env ⟨⟨k, hk, hI⟩, x1, v5, v6, he⟩ => by
    subst he
    rw [List.length_cons] at hk
    obtain ⟨v5', v6', h⟩ := qo_step (x0 := some (.int (n : Nat))) (x1 := some (.int (x : Nat))) (v5 := v5) (v6 := v6) hf hI (by omega)
    refine ⟨_, _, rfl, h, ⟨k + 1, by omega, ?_⟩, some (.int (x : Nat)), v5', v6', rfl⟩
    cases hc : psc s with
    | true =>
      have e : stepc psc psf s = psf s := by unfold stepc; rw [hc]; rfl
      rw [e]
      exact psI_step hf hI hc
    | false =>
      have e : stepc psc psf s = s := by unfold stepc; rw [hc]; rfl
      rw [e]
      exact ⟨hI.dv, hI.pt, by have := hI.ptk; omega, hI.no, by have := hI.ln; omega⟩) (List.range K) ⟨n, 2, []⟩ [some (.int (n : Nat)), none, some (.lst []), some (.int (n : Nat)), some (.int 2), none, none]
      ⟨⟨0, by simp, ⟨Nat.dvd_refl _, Nat.le_refl 2, (show 2 ≤ 0 + 2 by omega), fun d h1 h2 => by have : d < 2 := h2; omega, Nat.zero_le _⟩⟩, none, none, none, rfl⟩
  obtain ⟨_, x1, v5, v6, he⟩ := q2
  rw [fold_iter, List.length_range] at he
  exact ⟨x1, v5, v6, by rw [q1, he]⟩
theorem if_val {t : DT} {a b : DE} {env e : Dn.Env} {c : Bool} {r : R} (h : t env = .ok c e) (h2 : (bif c then a e else b e) = r) : dIf t a b env = r := by
  unfold dIf
  rw [h]
  cases c <;> exact h2
theorem l_powers_ok {n : Nat} (hf : Fine n) : d_l_powers [.int (n : Nat)] = .rn (.lst (tn (srt (powl n)))) .non := by
  obtain ⟨x1, v5, v6, hq⟩ := qo_loop (K := 40000) hf (by omega)
  have hl := ps_len hf
  have hs : bSorted [.lst (tn (powl n))] = some (.lst (tn (srt (powl n)))) := bSorted_n
  have hps : iterN (stepc psc psf) 40000 ⟨n, 2, []⟩ = psN n := rfl
  rw [hps] at hq
  unfold powl at hl hs ⊢
  generalize psN n = s at hq hl hs ⊢
  have t : dTest (dOp gGt (dVar 3) (dC (.int 1))) [some (.int (n : Nat)), x1, some (.lst (tn s.acc)), some (.int (s.left : Nat)), some (.int (s.part : Nat)), v5, v6] = .ok (decide (1 < s.left)) [some (.int (n : Nat)), x1, some (.lst (tn s.acc)), some (.int (s.left : Nat)), some (.int (s.part : Nat)), v5, v6] := test_op rfl rfl rfl rfl (gGt_n (a := s.left) (b := 1))
  have hd : dIf (dTest (dOp gGt (dVar 3) (dC (.int 1)))) (dDisp .lst (aCons (dVar 3) aNil)) (dDisp .lst aNil) [some (.int (n : Nat)), x1, some (.lst (tn s.acc)), some (.int (s.left : Nat)), some (.int (s.part : Nat)), v5, v6] = .ok (.val (.lst (tn (if 1 < s.left then [s.left] else [])))) [some (.int (n : Nat)), x1, some (.lst (tn s.acc)), some (.int (s.left : Nat)), some (.int (s.part : Nat)), v5, v6] := by
    refine if_val t ?_
    by_cases h : 1 < s.left
    · rw [decide_eq_true h, if_pos h]; rfl
    · rw [decide_eq_false h, if_neg h]; rfl
  have ha : gAdd (.lst (tn s.acc)) (.lst (tn (if 1 < s.left then [s.left] else []))) = some (.lst (tn (s.acc ++ if 1 < s.left then [s.left] else []))) := by
    show (if (tn s.acc).length + (tn (if 1 < s.left then [s.left] else [])).length ≤ 1000000 then _ else _) = _
    rw [List.length_append] at hl
    rw [if_pos (by rw [tn_len, tn_len]; omega)]
    simp [tn]
  exact run_rn (b := b_l_powers) (env := [some (.int (n : Nat)), none, none, none, none, none, none]) rfl (seq_nx (par_nx (pcons_val (d := .lst []) rfl (pcons_val rfl (pcons_val rfl rfl))) rfl) (seq_nx (for_nx (fn_range1 (x := 40000) rfl (by decide)) hq) (retN_val (fn1_val (op_val rfl hd rfl rfl ha) rfl hs))))
end Pu

/-! == of lists of numbers; _law_table -/
namespace Pu
open PySem Dn Lr L2 Ci Np
def pyn (a : List Nat) : List PyData := a.map fun x : Nat => PyData.int (x : Int)
theorem toPys_tn : ∀ a : List Nat, toPys (tn a) = some (pyn a)
  | [] => by simp [tn, pyn, toPys]
  | x :: a => by
    have ih := toPys_tn a
    show toPys (D.int (x : Nat) :: tn a) = _
    rw [toPys, ih]
    simp [toPy, pyn]
theorem depth_pyn : ∀ a : List Nat, PyData.depthAll (pyn a) = 0
  | [] => by simp [pyn, PyData.depthAll]
  | x :: a => by
    have ih := depth_pyn a
    show PyData.depthAll (PyData.int (x : Nat) :: pyn a) = 0
    rw [PyData.depthAll, ih]
    simp [PyData.depth]
theorem lay_pyn : ∀ a : List Nat, PyData.canLayAll0 (pyn a) = true
  | [] => by simp [pyn, PyData.canLayAll0]
  | x :: a => by
    have ih := lay_pyn a
    show PyData.canLayAll0 (PyData.int (x : Nat) :: pyn a) = true
    rw [PyData.canLayAll0, ih]
    simp [PyData.canLay0]
theorem eqv_pyn : ∀ a b : List Nat, PyData.eqvAll (pyn a) (pyn b) = decide (a = b)
  | [], [] => by simp [pyn, PyData.eqvAll]
  | [], y :: b => by simp [pyn, PyData.eqvAll]
  | x :: a, [] => by simp [pyn, PyData.eqvAll]
  | x :: a, y :: b => by
    have ih := eqv_pyn a b
    show PyData.eqvAll (PyData.int (x : Nat) :: pyn a) (PyData.int (y : Nat) :: pyn b) = _
    rw [PyData.eqvAll, ih, PyData.eqv]
    by_cases h : x = y
    · subst h; simp
    · have : ¬ ((x : Nat) : Int) = (y : Nat) := by omega
      simp [h, this]
theorem shp_l (a : List Nat) : SeqAt.shaped (.list (pyn a)) = true := by
  unfold SeqAt.shaped
  rw [PyData.canLay0, lay_pyn, PyData.depth, depth_pyn]
  rfl
theorem shp_t (a : List Nat) : SeqAt.shaped (.tuple (pyn a)) = true := by
  unfold SeqAt.shaped
  rw [PyData.canLay0, lay_pyn, PyData.depth, depth_pyn]
  rfl
theorem gEqB_l (a b : List Nat) : gEqB (.lst (tn a)) (.lst (tn b)) = some (decide (a = b)) := by
  have h1 : toPy (.lst (tn a)) = some (.list (pyn a)) := by rw [toPy, toPys_tn]; rfl
  have h2 : toPy (.lst (tn b)) = some (.list (pyn b)) := by rw [toPy, toPys_tn]; rfl
  unfold gEqB
  rw [h1, h2]
  dsimp only
  rw [shp_l, shp_l, PyData.eqv, eqv_pyn]
  rfl
theorem gEqB_t (a b : List Nat) : gEqB (.tup (tn a)) (.tup (tn b)) = some (decide (a = b)) := by
  have h1 : toPy (.tup (tn a)) = some (.tuple (pyn a)) := by rw [toPy, toPys_tn]; rfl
  have h2 : toPy (.tup (tn b)) = some (.tuple (pyn b)) := by rw [toPy, toPys_tn]; rfl
  unfold gEqB
  rw [h1, h2]
  dsimp only
  rw [shp_t, shp_t, PyData.eqv, eqv_pyn]
  rfl
theorem gEq_l {a b : List Nat} : gEq (.lst (tn a)) (.lst (tn b)) = some (.bl (decide (a = b))) := by unfold gEq; rw [gEqB_l]; rfl
theorem gEq_t {a b : List Nat} : gEq (.tup (tn a)) (.tup (tn b)) = some (.bl (decide (a = b))) := by unfold gEq; rw [gEqB_t]; rfl
theorem gNe_l {a b : List Nat} : gNe (.lst (tn a)) (.lst (tn b)) = some (.bl (!decide (a = b))) := by unfold gNe; rw [gEqB_l]; rfl
theorem gNe_t {a b : List Nat} : gNe (.tup (tn a)) (.tup (tn b)) = some (.bl (!decide (a = b))) := by unfold gNe; rw [gEqB_t]; rfl
theorem gNe_n {a b : Nat} : gNe (.int (a : Nat)) (.int (b : Nat)) = some (.bl (!decide (a = b))) := by
  rw [gNe_i]
  congr 2
  by_cases h : a = b
  · simp [h]
  · simp [h]; omega
/-! _law_table -/
theorem bMax_l {a b : Nat} : bMax [.lst [.int (a : Nat), .int (b : Nat)]] = some (.int ((max a b : Nat) : Int)) := by
  show some (D.int (maxL (a : Nat) [((b : Nat) : Int)])) = _
  unfold maxL maxL
  congr 2
  by_cases h : a < b
  · rw [if_pos (by omega), Nat.max_eq_right (by omega)]
  · rw [if_neg (by omega), Nat.max_eq_left (by omega)]
theorem disp2 {g : List D → D} {a b : DE} {env e1 e2 : Dn.Env} {x y : D} (h1 : a env = .ok (.val x) e1) (h2 : b e1 = .ok (.val y) e2) : dDisp g (aCons a (aCons b aNil)) env = .ok (.val (g [x, y])) e2 := by
  unfold dDisp
  rw [args2 h1 h2]
  rfl
abbrev ltB : DS := sSetIx 4 (dFn bMax (aCons (dDisp .lst (aCons (dOp gIx (dOwn 4) (dVar 7)) (aCons (dOp gMul (dOp gIx (dVar 1) (dOp gSubt (dVar 7) (dVar 5))) (dVar 5)) aNil))) aNil)) (dVar 7)
abbrev ltL : DS := sFor (iFn range2 (aCons (dVar 5) (aCons (dOp gAdd (dVar 0) (dC (.int 1))) aNil))) (gN 7) ltB
theorem lt_ok {N q : Nat} {t b : Nat → Nat} {x2 x3 x6 v7 : Option D} (hN : N ≤ 2000) (hq : q ≤ N) :
    ∃ v7', ltL [some (.int (N : Nat)), some (.lst (tb N fun x => .int (b x : Nat))), x2, x3, some (.lst (tb N fun x => .int (t x : Nat))), some (.int (q : Nat)), x6, v7] = .nx [some (.int (N : Nat)), some (.lst (tb N fun x => .int (b x : Nat))), x2, x3, some (.lst (tb N fun x => .int ((if q ≤ x then max (t x) (b (x - q) * q) else t x : Nat) : Int))), some (.int (q : Nat)), x6, v7'] := by
  obtain ⟨env', q1, q2⟩ := forL_inv (g := gN 7) (b := ltB) (fun rem env => ∃ m, rem = tn (rg m (N + 1)) ∧ q ≤ m ∧ ∃ v7, env = [some (.int (N : Nat)), some (.lst (tb N fun x => .int (b x : Nat))), x2, x3, some (.lst (tb N fun x => .int ((if q ≤ x ∧ x < m then max (t x) (b (x - q) * q) else t x : Nat) : Int))), some (.int (q : Nat)), x6, v7]) (fun x r env ⟨m, hr, h1, v7, he⟩ => by
    subst he
    by_cases hm : N + 1 ≤ m
    · rw [rg_nil hm] at hr; cases hr
    · rw [rg_cons (by omega)] at hr
      have hr2 : x :: r = D.int (m : Nat) :: tn (rg (m + 1) (N + 1)) := hr
      cases hr2
      have i1 := tb_ix (N := N) (i := m) (f := fun x => D.int ((if q ≤ x ∧ x < m then max (t x) (b (x - q) * q) else t x : Nat) : Int)) (by omega)
      rw [if_neg (by omega)] at i1
      have i2 := tb_ix (N := N) (i := m - q) (f := fun x => D.int (b x : Nat)) (by omega)
      have m1 := gMul_n (a := b (m - q)) (b := q) (by omega)
      refine ⟨_, _, rfl, setIx_nx (fn1_val (disp2 (op_val rfl rfl rfl rfl i1) (op_val (op_val rfl (op_val rfl rfl rfl rfl (gSub_n h1)) rfl rfl i2) rfl rfl rfl m1)) rfl bMax_l) rfl rfl rfl rfl (tb_ixN (by omega)), m + 1, rfl, by omega, some (.int (m : Nat)), ?_⟩
      rw [tb_set (by omega)]
      have e : tb N (fun x => if x = m then D.int ((max (t m) (b (m - q) * q) : Nat) : Int) else D.int ((if q ≤ x ∧ x < m then max (t x) (b (x - q) * q) else t x : Nat) : Int)) = tb N fun x => .int ((if q ≤ x ∧ x < m + 1 then max (t x) (b (x - q) * q) else t x : Nat) : Int) := tb_congr fun x _ => by
        by_cases z : x = m
        · subst z; simp [h1]
        · by_cases z2 : q ≤ x ∧ x < m
          · simp [z, z2, show x < m + 1 by omega]
          · rw [if_neg z, if_neg z2, if_neg (by omega)]
      rw [e]
      rfl) (tn (rg q (N + 1))) [some (.int (N : Nat)), some (.lst (tb N fun x => .int (b x : Nat))), x2, x3, some (.lst (tb N fun x => .int (t x : Nat))), some (.int (q : Nat)), x6, v7] ⟨q, rfl, Nat.le_refl q, v7, by
        have e : tb N (fun x => D.int ((if q ≤ x ∧ x < q then max (t x) (b (x - q) * q) else t x : Nat) : Int)) = tb N fun x => .int (t x : Nat) := tb_congr fun x hx => by rw [if_neg (by omega)]
        rw [e]⟩
  obtain ⟨m, hr, h1, v7', rfl⟩ := q2
  have hm : N + 1 ≤ m := by
    by_cases z : N + 1 ≤ m
    · exact z
    · have := congrArg List.length hr
      simp at this
      omega
  have e : tb N (fun x => D.int ((if q ≤ x ∧ x < m then max (t x) (b (x - q) * q) else t x : Nat) : Int)) = tb N fun x => .int ((if q ≤ x then max (t x) (b (x - q) * q) else t x : Nat) : Int) := tb_congr fun x hx => by
    by_cases z : q ≤ x
    · rw [if_pos z, if_pos ⟨z, by omega⟩]
    · rw [if_neg z, if_neg (by omega)]
  rw [e] at q1
  exact ⟨v7', for_nx (fn_range2 rfl (op_val rfl rfl rfl rfl (gAdd_n (a := N) (b := 1))) (by omega) (by omega)) q1⟩
abbrev lpB : DS := sSeq (sIf (dTest (dOp gLe (dVar 5) (dVar 0))) ltL sNil) (sSet 5 (dOp gMul (dVar 5) (dVar 2)))
abbrev lpL : DS := sFor (iFn range1 (aCons (dC (.int 12)) aNil)) (gN 3) lpB
theorem lp_ok {N p : Nat} {b : Nat → Nat} {x3 x6 v7 : Option D} (hN : N ≤ 2000) (hp : p ≤ N) (K : Nat) :
    ∃ v3 v7', forL (gN 3) lpB (tn (List.range K)) [some (.int (N : Nat)), some (.lst (tb N fun x => .int (b x : Nat))), some (.int (p : Nat)), x3, some (.lst (tb N fun x => .int (b x : Nat))), some (.int (p : Nat)), x6, v7] = .nx [some (.int (N : Nat)), some (.lst (tb N fun x => .int (b x : Nat))), some (.int (p : Nat)), v3, some (.lst (tb N fun x => .int (upE p b x K : Nat))), some (.int ((p ^ (K + 1) : Nat) : Int)), x6, v7'] := by
  obtain ⟨env', q1, q2⟩ := forL_foldR (g := gN 3) (b := lpB) (fun _ (e : Nat) env => ∃ v3 v7, env = [some (.int (N : Nat)), some (.lst (tb N fun x => .int (b x : Nat))), some (.int (p : Nat)), v3, some (.lst (tb N fun x => .int (upE p b x e : Nat))), some (.int ((p ^ (e + 1) : Nat) : Int)), x6, v7]) (fun e _ => e + 1) (fun x r e env ⟨v3, v7, he⟩ => by
    subst he
    have m1 := gMul_n (a := p ^ (e + 1)) (b := p) (by omega)
    have t1 : dTest (dOp gLe (dVar 5) (dVar 0)) [some (.int (N : Nat)), some (.lst (tb N fun x => .int (b x : Nat))), some (.int (p : Nat)), some (.int (x : Nat)), some (.lst (tb N fun x => .int (upE p b x e : Nat))), some (.int ((p ^ (e + 1) : Nat) : Int)), x6, v7] = .ok (decide (p ^ (e + 1) ≤ N)) [some (.int (N : Nat)), some (.lst (tb N fun x => .int (b x : Nat))), some (.int (p : Nat)), some (.int (x : Nat)), some (.lst (tb N fun x => .int (upE p b x e : Nat))), some (.int ((p ^ (e + 1) : Nat) : Int)), x6, v7] := test_op rfl rfl rfl rfl gLe_n
    by_cases hq : p ^ (e + 1) ≤ N
    · rw [decide_eq_true hq] at t1
      obtain ⟨v7', h⟩ := lt_ok (N := N) (q := p ^ (e + 1)) (t := fun x => upE p b x e) (b := b) (x2 := some (.int (p : Nat))) (x3 := some (.int (x : Nat))) (x6 := x6) (v7 := v7) hN hq
      exact ⟨_, _, rfl, seq_nx (if_true t1 h) (set_val (op_val rfl rfl rfl rfl m1)), some (.int (x : Nat)), v7', rfl⟩
    · rw [decide_eq_false hq] at t1
      refine ⟨_, _, rfl, seq_nx (if_false t1 rfl) (set_val (op_val rfl rfl rfl rfl m1)), some (.int (x : Nat)), v7, ?_⟩
      have e2 : tb N (fun x => D.int (upE p b x (e + 1) : Nat)) = tb N fun x => .int (upE p b x e : Nat) := tb_congr fun x hx => by
        rw [upE, if_neg (by omega)]
      rw [e2]
      rfl) (List.range K) 0 [some (.int (N : Nat)), some (.lst (tb N fun x => .int (b x : Nat))), some (.int (p : Nat)), x3, some (.lst (tb N fun x => .int (b x : Nat))), some (.int (p : Nat)), x6, v7] ⟨x3, v7, by rw [Nat.pow_one]; rfl⟩
  obtain ⟨v3, v7', he⟩ := q2
  have e : (List.range K).foldl (fun e _ => e + 1) 0 = K := by
    rw [fold_iter (fun e => e + 1), List.length_range]
    have : ∀ k n, iterN (fun e => e + 1) k n = n + k := fun k => by
      induction k with
      | zero => intro n; rfl
      | succ k ih => intro n; show iterN _ k (n + 1) = _; rw [ih]; omega
    rw [this]; omega
  rw [e] at he
  exact ⟨v3, v7', by rw [q1, he]⟩
theorem div_nil {m : Nat} (h : 2 ≤ m) : ((rg 2 m).filter fun k => decide (m % k = 0)) = [] ↔ Isp m := by
  rw [List.filter_eq_nil_iff]
  constructor
  · intro hh
    exact ⟨h, fun k h1 h2 h3 => hh k (rg_mem.mpr ⟨h1, h2⟩) (decide_eq_true h3)⟩
  · intro hp k hk hd
    obtain ⟨h1, h2⟩ := rg_mem.mp hk
    exact hp.2 k h1 h2 (of_decide_eq_true hd)
abbrev lqC : DE := dComp [6] (iFn range2 (aCons (dC (.int 2)) (aCons (dVar 2) aNil))) (gN 6) (dTest (dOp gEq (dOp gMod (dVar 2) (dVar 6)) (dC (.int 0)))) (dVar 6)
theorem lq_comp {m : Nat} {x0 x1 x3 x4 x5 x6 x7 : Option D} (h : 2 ≤ m) (hm : m ≤ 2000) : lqC [x0, x1, some (.int (m : Nat)), x3, x4, x5, x6, x7] = .ok (.val (.lst (tn ((rg 2 m).filter fun k => decide (m % k = 0))))) [x0, x1, some (.int (m : Nat)), x3, x4, x5, x6, x7] := by
  have := comp_nn (i := 6) (it := iFn range2 (aCons (dC (.int 2)) (aCons (dVar 2) aNil))) (t := dTest (dOp gEq (dOp gMod (dVar 2) (dVar 6)) (dC (.int 0)))) (e := dVar 6) (env := [x0, x1, some (.int (m : Nat)), x3, x4, x5, x6, x7]) (rg 2 m) (fun k => decide (m % k = 0)) (fun x => .int (x : Nat)) (fn_range2 (x := 2) (y := m) rfl rfl (by omega) (by omega)) (by simp) (by simp; omega) (fun k hk => by
    have := rg_mem.mp hk
    exact ⟨test_op (op_val rfl rfl rfl rfl (gMod_n (by omega))) rfl rfl rfl (gEq_n (a := m % k) (b := 0)), fun _ => rfl⟩)
  exact this
abbrev lqB : DS := sIf (dTest (dOp gEq lqC (dDisp .lst aNil)))
    (sSeq (sPar [4, 5] (pCons (dFn bListA (aCons (dVar 1) aNil)) (pCons (dVar 2) pNil)))
    (sSeq lpL
    (sSeq (sFrz 4) (sSet 1 (dOwn 4)))))
    sNil
def upt (b : Nat → Nat) (m : Nat) : Nat → Nat := if isp m then up b m else b
theorem lq_step {N m : Nat} {b : Nat → Nat} {x3 x4 x5 x6 x7 : Option D} (hN : N ≤ 2000) (h : 2 ≤ m) (hm : m ≤ N) :
    ∃ x3' x4' x5' x7', lqB [some (.int (N : Nat)), some (.lst (tb N fun x => .int (b x : Nat))), some (.int (m : Nat)), x3, x4, x5, x6, x7] = .nx [some (.int (N : Nat)), some (.lst (tb N fun x => .int (upt b m x : Nat))), some (.int (m : Nat)), x3', x4', x5', x6, x7'] := by
  have hc := lq_comp (m := m) (x0 := some (.int (N : Nat))) (x1 := some (.lst (tb N fun x => .int (b x : Nat)))) (x3 := x3) (x4 := x4) (x5 := x5) (x6 := x6) (x7 := x7) h (by omega)
  have t1 : dTest (dOp gEq lqC (dDisp .lst aNil)) [some (.int (N : Nat)), some (.lst (tb N fun x => .int (b x : Nat))), some (.int (m : Nat)), x3, x4, x5, x6, x7] = .ok (isp m) [some (.int (N : Nat)), some (.lst (tb N fun x => .int (b x : Nat))), some (.int (m : Nat)), x3, x4, x5, x6, x7] := by
    refine test_op hc rfl rfl rfl ?_
    have := gEq_l (a := (rg 2 m).filter fun k => decide (m % k = 0)) (b := [])
    have e : decide (((rg 2 m).filter fun k => decide (m % k = 0)) = []) = isp m := by
      cases hi : isp m with
      | true => exact decide_eq_true ((div_nil h).mpr (isp_iff.mp hi))
      | false => exact decide_eq_false fun z => by have := isp_iff.mpr ((div_nil h).mp z); rw [hi] at this; cases this
    rw [e] at this
    exact this
  unfold upt
  cases hi : isp m with
  | false =>
    rw [hi] at t1
    exact ⟨x3, x4, x5, x7, if_false t1 rfl⟩
  | true =>
    rw [hi] at t1
    obtain ⟨v3, v7, hl⟩ := lp_ok (N := N) (p := m) (b := b) (x3 := x3) (x6 := x6) (v7 := x7) hN hm 12
    refine ⟨v3, some (.fz (.lst (tb N fun x => .int (up b m x : Nat)))), some (.int ((m ^ (12 + 1) : Nat) : Int)), v7, if_true t1 (seq_nx (par_nx (pcons_val (fn1_val rfl rfl rfl) (pcons_val rfl rfl)) rfl) (seq_nx (for_nx (fn_range1 (x := 12) rfl (by decide)) hl) (seq_nx rfl rfl)))⟩
theorem l_table_ok {N : Nat} (hN : N ≤ 2000) : d_l_table [.int (N : Nat)] = .ok (.lst (bt N)) .non := by
  obtain ⟨env', q1, q2⟩ := forL_foldR (g := gN 2) (b := lqB) (fun rem (b : Nat → Nat) env => (∀ y ∈ rem, 2 ≤ y ∧ y ≤ N) ∧ ∃ x2 x3 x4 x5 x6 x7, env = [some (.int (N : Nat)), some (.lst (tb N fun x => .int (b x : Nat))), x2, x3, x4, x5, x6, x7]) upt (fun x r b env ⟨h1, x2, x3, x4, x5, x6, x7, he⟩ => by
    subst he
    obtain ⟨hx, hx2⟩ := h1 x (List.mem_cons_self ..)
    obtain ⟨x3', x4', x5', x7', h⟩ := lq_step (N := N) (m := x) (b := b) (x3 := x3) (x4 := x4) (x5 := x5) (x6 := x6) (x7 := x7) hN hx hx2
    exact ⟨_, _, rfl, h, fun y hy => h1 y (List.mem_cons_of_mem _ hy), _, x3', x4', x5', x6, x7', rfl⟩) (rg 2 (N + 1)) (fun _ => 1) [some (.int (N : Nat)), some (.lst (tb N fun _ => .int 1)), none, none, none, none, none, none] ⟨fun y hy => by have := rg_mem.mp hy; omega, none, none, none, none, none, none, rfl⟩
  obtain ⟨_, x2, x3, x4, x5, x6, x7, he⟩ := q2
  have key : ∀ (l : List Nat) (b : Nat → Nat), l.foldl upt b = (l.filter isp).foldl up b := by
    intro l
    induction l with
    | nil => intro b; rfl
    | cons a l ih =>
      intro b
      rw [List.foldl_cons, ih, List.filter_cons]
      unfold upt
      split
      · rfl
      · rfl
  have e : tb N (fun x => D.int (((rg 2 (N + 1)).foldl upt (fun _ => 1) x : Nat) : Int)) = bt N := tb_congr fun x hx => by
    rw [key, ← prs_rg]
    have : (prs N).foldl up (fun _ => 1) x = best x := tab_best hx
    rw [this]
  rw [e] at he
  rw [he] at q1
  have h2 : gAdd (.int (N : Nat)) (.int 1) = some (.int ((N + 1 : Nat) : Int)) := gAdd_n (a := N) (b := 1)
  have h3 : gMul (.lst [.int 1]) (.int ((N + 1 : Nat) : Int)) = some (.lst (tb N fun _ => .int 1)) := by
    have e3 : gMul (.lst [.int 1]) (.int ((N + 1 : Nat) : Int)) = gRep (.lst [.int 1]) (.int ((N + 1 : Nat) : Int)) := by simp only [gMul, gRep]
    rw [e3, gRep_n (by omega), ← rep_flat, rep_tb]
  have l1 : dDisp D.lst (aCons (dC (.int 1)) aNil) [some (.int (N : Nat)), none, none, none, none, none, none, none] = .ok (.val (.lst [.int 1])) [some (.int (N : Nat)), none, none, none, none, none, none, none] := rfl
  exact run_val (b := b_l_table) (env := [some (.int (N : Nat)), none, none, none, none, none, none, none]) rfl (seq_nx (set_val (op_val l1 (op_val rfl rfl rfl rfl h2) rfl rfl h3)) (seq_nx (for_nx (fn_range2 (x := 2) (y := N + 1) rfl (op_val rfl rfl rfl rfl h2) (by omega) (by omega)) q1) (ret_val rfl)))
end Pu

/-! least_cards, least_for -/
namespace Pu
open PySem Dn Lr L2 Ci Np
theorem check_number_ok {n b : Nat} (h1 : 1 ≤ n) (h2 : n ≤ b) : d_check_number [.int (n : Nat), .int (b : Nat)] = .ok .non .non := by
  have h : d_is_from [.int (n : Nat), .int 1, .int (b : Nat)] = .ok (.bl true) .non := by rw [is_from_i, decide_eq_true (by omega), decide_eq_true (by omega)]; rfl
  exact run_nx (b := b_check_number) (env := [some (.int (n : Nat)), some (.int (b : Nat))]) rfl (if_false (not_tt (test_val (call_ok (args3 rfl rfl rfl) rfl h))) rfl)
theorem sumL_n : ∀ l : List Nat, (l.map fun x : Nat => (x : Int)).sum = ((l.sum : Nat) : Int)
  | [] => rfl
  | x :: l => by rw [List.map_cons, List.sum_cons, List.sum_cons, sumL_n l]; omega
theorem for_rt {it : DI} {g : DG} {b : DS} {env e : Dn.Env} {xs : List D} {r : RS} (h1 : it env = .ok xs e) (h2 : forL g b xs e = r) : sFor it g b env = r := by unfold sFor; rw [h1]; exact h2
theorem seq_rt {a b : DS} {env e : Dn.Env} {rv : Rv} (h1 : a env = .rt rv e) : sSeq a b env = .rt rv e := by unfold sSeq; rw [h1]
abbrev lfB : DS := sIf (dTest (dOp gGe (dOp gIx (dVar 2) (dVar 3)) (dVar 0))) (sRet (dVar 3)) sNil
theorem gGe_n {a b : Nat} : gGe (.int (a : Nat)) (.int (b : Nat)) = some (.bl (decide (b ≤ a))) := by
  rw [gGe_i]
  congr 2
  exact decide_eq_decide.mpr (by omega)
theorem lf_in {t N : Nat} {x1 : Option D} : ∀ (xs : List Nat) (v3 : Option D), (∀ x ∈ xs, x ≤ N) → ∃ v3', forL (gN 3) lfB (tn xs) [some (.int (t : Nat)), x1, some (.lst (bt N)), v3] = match xs.find? (fun n => decide (t ≤ best n)) with
    | some n => .rt (.val (.int (n : Nat))) [some (.int (t : Nat)), x1, some (.lst (bt N)), some (.int (n : Nat))]
    | none => .nx [some (.int (t : Nat)), x1, some (.lst (bt N)), v3']
  | [], v3, _ => ⟨v3, rfl⟩
  | x :: xs, v3, h => by
    have hx := h x (List.mem_cons_self ..)
    have t1 : dTest (dOp gGe (dOp gIx (dVar 2) (dVar 3)) (dVar 0)) [some (.int (t : Nat)), x1, some (.lst (bt N)), some (.int (x : Nat))] = .ok (decide (t ≤ best x)) [some (.int (t : Nat)), x1, some (.lst (bt N)), some (.int (x : Nat))] := test_op (op_val rfl rfl rfl rfl (bt_ix hx)) rfl rfl rfl gGe_n
    rw [List.find?_cons]
    show ∃ v3', forL (gN 3) lfB (D.int (x : Nat) :: tn xs) _ = _
    by_cases hc : t ≤ best x
    · rw [decide_eq_true hc] at t1 ⊢
      have hb : lfB [some (.int (t : Nat)), x1, some (.lst (bt N)), some (.int (x : Nat))] = .rt (.val (.int (x : Nat))) [some (.int (t : Nat)), x1, some (.lst (bt N)), some (.int (x : Nat))] := if_true t1 (ret_val rfl)
      refine ⟨v3, ?_⟩
      unfold forL
      rw [show gN 3 (D.int (x : Nat)) [some (.int (t : Nat)), x1, some (.lst (bt N)), v3] = some [some (.int (t : Nat)), x1, some (.lst (bt N)), some (.int (x : Nat))] from rfl]
      dsimp only
      rw [hb]
    · rw [decide_eq_false hc] at t1 ⊢
      have hb : lfB [some (.int (t : Nat)), x1, some (.lst (bt N)), some (.int (x : Nat))] = .nx [some (.int (t : Nat)), x1, some (.lst (bt N)), some (.int (x : Nat))] := if_false t1 rfl
      obtain ⟨v3', ih⟩ := lf_in (t := t) (N := N) (x1 := x1) xs (some (.int (x : Nat))) fun y hy => h y (List.mem_cons_of_mem _ hy)
      refine ⟨v3', ?_⟩
      unfold forL
      rw [show gN 3 (D.int (x : Nat)) [some (.int (t : Nat)), x1, some (.lst (bt N)), v3] = some [some (.int (t : Nat)), x1, some (.lst (bt N)), some (.int (x : Nat))] from rfl]
      dsimp only
      rw [hb]
      exact ih
def fst (t N : Nat) : Option Nat := (List.range (N + 1)).find? fun n => decide (t ≤ best n)
abbrev lfO : DS := sSeq (sSet 2 (dCall d_table_to (aCons (dVar 1) aNil))) (sFor (iFn range1 (aCons (dOp gAdd (dVar 1) (dC (.int 1))) aNil)) (gN 3) lfB)
theorem lf_out {t N : Nat} {v2 v3 : Option D} (hN : N ≤ 2000) : ∃ v3', lfO [some (.int (t : Nat)), some (.int (N : Nat)), v2, v3] = match fst t N with
    | some n => .rt (.val (.int (n : Nat))) [some (.int (t : Nat)), some (.int (N : Nat)), some (.lst (bt N)), some (.int (n : Nat))]
    | none => .nx [some (.int (t : Nat)), some (.int (N : Nat)), some (.lst (bt N)), v3'] := by
  obtain ⟨v3', h⟩ := lf_in (t := t) (N := N) (x1 := some (.int (N : Nat))) (List.range (N + 1)) v3 (fun x hx => by rw [List.mem_range] at hx; omega)
  refine ⟨v3', seq_nx (set_val (call_rn (args1 rfl) rfl (table_to_ok hN))) (for_rt (fn_range1 (x := N + 1) (op_val rfl rfl rfl rfl (gAdd_n (a := N) (b := 1))) (by omega)) h)⟩
theorem forL_rt {g : DG} {b : DS} {x : D} {xs : List D} {env e1 e2 : Dn.Env} {rv : Rv} (h1 : g x env = some e1) (h2 : b e1 = .rt rv e2) : forL g b (x :: xs) env = .rt rv e2 := by
  unfold forL
  rw [h1]
  dsimp only
  rw [h2]
theorem forL_nx {g : DG} {b : DS} {x : D} {xs : List D} {env e1 e2 : Dn.Env} {r : RS} (h1 : g x env = some e1) (h2 : b e1 = .nx e2) (h3 : forL g b xs e2 = r) : forL g b (x :: xs) env = r := by
  unfold forL
  rw [h1]
  dsimp only
  rw [h2]
  exact h3
theorem least_for_ok {t n : Nat} (h1 : 1 ≤ t) (h2 : t ≤ 10 ^ 30) (h : fst t 200 = some n ∨ (fst t 200 = none ∧ fst t 2000 = some n)) : d_least_for [.int (t : Nat)] = .ok (.int (n : Nat)) .non := by
  have hc : d_check_number [.int (t : Nat), .int 1000000000000000000000000000000] = .ok .non .non := check_number_ok (n := t) (b := 1000000000000000000000000000000) h1 (by omega)
  have key : ∃ e, forL (gN 1) lfO [.int (200 : Nat), .int (2000 : Nat)] [some (.int (t : Nat)), none, none, none] = .rt (.val (.int (n : Nat))) e := by
    obtain ⟨v3, l1⟩ := lf_out (t := t) (N := 200) (v2 := none) (v3 := none) (by omega)
    rcases h with h | ⟨ha, hb⟩
    · rw [h] at l1
      exact ⟨_, forL_rt rfl l1⟩
    · rw [ha] at l1
      obtain ⟨v3', l2⟩ := lf_out (t := t) (N := 2000) (v2 := some (.lst (bt 200))) (v3 := v3) (by omega)
      rw [hb] at l2
      exact ⟨_, forL_nx rfl l1 (forL_rt rfl l2)⟩
  obtain ⟨e, hk⟩ := key
  exact run_val (b := b_least_for) (env := [some (.int (t : Nat)), none, none, none]) rfl (seq_nx (expr_nx (call_ok (args2 rfl rfl) rfl hc)) (seq_rt (for_rt (xs := [.int (200 : Nat), .int (2000 : Nat)]) rfl hk)))
end Pu

/-! draws at any own slot, small things that several laws use -/
namespace Pu
open PySem Dn Lr L2 Ci Np
theorem forL_mem {g : DG} {b : DS} (P : Dn.Env → Prop) : ∀ (xs : List D) (env : Dn.Env), (∀ x ∈ xs, ∀ env, P env → ∃ e1 e2, g x env = some e1 ∧ b e1 = .nx e2 ∧ P e2) → P env → ∃ env', forL g b xs env = .nx env' ∧ P env'
  | [], env, _, h => ⟨env, rfl, h⟩
  | x :: xs, env, h, hp => by
    obtain ⟨e1, e2, h1, h2, h3⟩ := h x (List.mem_cons_self ..) env hp
    obtain ⟨env', q1, q2⟩ := forL_mem P xs e2 (fun y hy => h y (List.mem_cons_of_mem _ hy)) h3
    exact ⟨env', forL_nx h1 h2 q1, q2⟩
theorem callIO_ok {df : DF} {a : DA} {env e : Dn.Env} {i : Nat} {xs : List Rv} {y : List D} {ds : List D} {d o : D} (h1 : a env = .ok (.slot i :: xs) e) (hl : look e i = some (.lst y)) (hc : clean xs = some ds) (h : df (.lst y :: ds) = .ok d o) : dCallIO df a env = .ok (.val d) (e.set i (some o)) := by
  unfold dCallIO
  rw [h1]
  dsimp only
  rw [hl, hc]
  dsimp only
  rw [h]
theorem own_slot {i : Nat} {env : Dn.Env} {y : List D} (h : look env i = some (.lst y)) : dOwn i env = .ok (.slot i) env := by unfold dOwn; rw [h]
theorem below_n {y : List D} {m : Nat} (h : Src (.lst y)) (hm : 0 < m) (hm2 : m ≤ 10 ^ 40) : ∃ (r : Nat) (y' : List D), Src (.lst y') ∧ r < m ∧ d_l_below [.lst y, .int (m : Nat)] = .ok (.int (r : Nat)) (.lst y') := by
  have h3 : (m : Int) < 2 ^ 3000 := by
    have e : (2 : Int) ^ 3000 = ((2 ^ 3000 : Nat) : Int) := by norm_cast
    have : (10 : Nat) ^ 40 < 2 ^ 3000 := Nat.lt_of_lt_of_le (by decide : (10 : Nat) ^ 40 < 2 ^ 160) (Nat.pow_le_pow_right (by decide) (by decide))
    rw [e]; omega
  obtain ⟨r, d', h1, r0, r1, e⟩ := below (n := (m : Nat)) h (by omega) h3
  obtain ⟨y', rfl⟩ := src_lst h1
  exact ⟨r.toNat, y', h1, by omega, by rw [e, show ((r.toNat : Nat) : Int) = r from by omega]⟩
/-- a draw below m, at any own slot; the bound may draw itself -/
theorem drawG {env e1 : Dn.Env} {i m : Nat} {y0 y : List D} {a : DE} (h0 : look env i = some (.lst y0)) (ha : a env = .ok (.val (.int (m : Nat))) e1) (hl : look e1 i = some (.lst y)) (h : Src (.lst y)) (hm : 0 < m) (hm2 : m ≤ 10 ^ 40) :
    ∃ (k : Nat) (y' : List D), Src (.lst y') ∧ k < m ∧ dCallIO d_l_below (aCons (dOwn i) (aCons a aNil)) env = .ok (.val (.int (k : Nat))) (e1.set i (some (.lst y'))) := by
  obtain ⟨k, y', h1, h2, e⟩ := below_n h hm hm2
  exact ⟨k, y', h1, h2, callIO_ok (ds := [.int (m : Nat)]) (args2 (own_slot h0) ha) hl rfl e⟩
theorem pickG {env e1 : Dn.Env} {i : Nat} {y0 y items : List D} {a : DE} (h0 : look env i = some (.lst y0)) (ha : a env = .ok (.val (.lst items)) e1) (hl : look e1 i = some (.lst y)) (h : Src (.lst y)) (hm : 0 < items.length) (hm2 : items.length ≤ 100000) :
    ∃ (r : Nat) (x : D) (y' : List D), Src (.lst y') ∧ items[r]? = some x ∧ dCallIO d_l_pick (aCons (dOwn i) (aCons a aNil)) env = .ok (.val x) (e1.set i (some (.lst y'))) := by
  obtain ⟨r, x, d', h1, h2, h3⟩ := pick_ok (items := items) h hm (by omega)
  obtain ⟨y', rfl⟩ := src_lst h2
  exact ⟨r, x, y', h2, h1, callIO_ok (ds := [.lst items]) (args2 (own_slot h0) ha) hl rfl h3⟩
theorem eq_int {n : Nat} {x : Int} : d_l_equal (n + 1) [.int x, .int x] = .ok (.bl true) .non := equal_refl (.int _)
theorem or_ff {s t : DT} {env e e2 : Dn.Env} {c : Bool} (h1 : s env = .ok false e) (h2 : t e = .ok c e2) : dOr s t env = .ok c e2 := by unfold dOr; rw [h1]; exact h2
theorem or_tt {s t : DT} {env e : Dn.Env} (h1 : s env = .ok true e) : dOr s t env = .ok true e := by unfold dOr; rw [h1]
theorem pl_ltn {p : List Nat} (hp : p.length ≤ 100000) : Pl 60 (.lst (tn p)) := .lst (n := 59) (by simpa using hp) fun y hy => by
  obtain ⟨x, _, rfl⟩ := List.mem_map.mp hy
  exact .int _
theorem callN_rn {df : DF} {a : DA} {env e : Dn.Env} {ds : List D} {xs : List Rv} {d o : D} (h1 : a env = .ok xs e) (hc : clean xs = some ds) (h : df ds = .rn d o) : dCallN df a env = .ok (.val d) e := by
  unfold dCallN
  rw [h1]
  dsimp only
  rw [hc]
  dsimp only
  rw [h]
theorem un_val {g : D → Option D} {a : DE} {env e1 : Dn.Env} {x : Rv} {dx d : D} (h1 : a env = .ok x e1) (r1 : rd e1 x = some dx) (h : g dx = some d) : dUn g a env = .ok (.val d) e1 := by
  unfold dUn
  rw [h1]
  dsimp only
  rw [r1]
  dsimp only
  rw [h]
theorem disp_l {a : DA} {env e : Dn.Env} {rs : List Rv} {ds : List D} {g : List D → D} (h1 : a env = .ok rs e) (hc : clean rs = some ds) (hl : ds.length ≤ 1000000) : dDisp g a env = .ok (.val (g ds)) e := by
  unfold dDisp
  rw [h1]
  dsimp only
  rw [hc]
  dsimp only
  rw [if_pos hl]
theorem acons {a : DE} {r : DA} {env e1 e2 : Dn.Env} {x : Rv} {xs : List Rv} (h1 : a env = .ok x e1) (h2 : r e1 = .ok xs e2) : aCons a r env = .ok (x :: xs) e2 := by
  unfold aCons
  rw [h1]
  dsimp only
  rw [h2]
theorem anil {env : Dn.Env} : aNil env = .ok [] env := rfl
theorem run_law {n : Nat} {b : DS} {ds : List D} {env e : Dn.Env} {d : D} (he : ds.map some ++ List.replicate (n - ds.length) none = env) (h : b env = .rt (.val d) e) : runF n false b ds = .ok d .non := run_val he h
theorem call0_ok {df : DF} {env : Dn.Env} {d o : D} (h : df [] = .ok d o) : dCall0 df env = .ok (.val d) env := by
  unfold dCall0
  rw [h]
theorem dif_true {t : DT} {a b : DE} {env e : Dn.Env} {r : R} (h : t env = .ok true e) (h2 : a e = r) : dIf t a b env = r := by unfold dIf; rw [h]; exact h2
theorem dif_false {t : DT} {a b : DE} {env e : Dn.Env} {r : R} (h : t env = .ok false e) (h2 : b e = r) : dIf t a b env = r := by unfold dIf; rw [h]; exact h2
end Pu

/-! how great best is: below, above -/
namespace Np
theorem upE_ge0 {p m : Nat} {b : Nat → Nat} : ∀ e, b m ≤ upE p b m e
  | 0 => Nat.le_refl _
  | e + 1 => by
    have := upE_ge0 (p := p) (m := m) (b := b) e
    unfold upE
    split
    · exact Nat.le_trans this (Nat.le_max_left _ _)
    · exact this
theorem upE_ge1 {p m : Nat} {b : Nat → Nat} (h : p ≤ m) : ∀ e, b (m - p) * p ≤ upE p b m (e + 1)
  | 0 => by
    show b (m - p) * p ≤ upE p b m 1
    unfold upE
    rw [if_pos (by simpa using h)]
    simp only [Nat.zero_add, Nat.pow_one]
    exact Nat.le_max_right _ _
  | e + 1 => by
    have := upE_ge1 (b := b) h e
    rw [upE]
    split
    · exact Nat.le_trans this (Nat.le_max_left _ _)
    · exact this
theorem fold_ge (S : Nat → Bool) : ∀ (ps : List Nat) (b : Nat → Nat) (m : Nat), (ps.filter S).sum ≤ m → b (m - (ps.filter S).sum) * (ps.filter S).foldl (· * ·) 1 ≤ ps.foldl Np.up b m
  | [], b, m, _ => by simp
  | p :: ps, b, m, h => by
    have fm : ∀ (l : List Nat) (a : Nat), l.foldl (· * ·) a = a * l.foldl (· * ·) 1 := by
      intro l
      induction l with
      | nil => intro a; simp
      | cons x l ih => intro a; rw [List.foldl_cons, List.foldl_cons, ih, ih (1 * x)]; simp [Nat.mul_assoc]
    rw [List.foldl_cons]
    by_cases hs : S p = true
    · rw [List.filter_cons, if_pos hs] at h ⊢
      rw [List.sum_cons] at h ⊢
      have ih := fold_ge S ps (Np.up b p) m (by omega)
      refine Nat.le_trans ?_ ih
      rw [List.foldl_cons, Nat.one_mul, fm, ← Nat.mul_assoc]
      refine Nat.mul_le_mul_right _ ?_
      have e : m - (p + (ps.filter S).sum) = m - (ps.filter S).sum - p := by omega
      rw [e]
      exact upE_ge1 (e := 11) (by omega)
    · rw [List.filter_cons, if_neg hs] at h ⊢
      exact Nat.le_trans (Nat.mul_le_mul_right _ (upE_ge0 12)) (fold_ge S ps (Np.up b p) m h)
theorem best_ge {m q : Nat} (hq : q ≤ m) (h : (prs q).sum ≤ m) : (prs q).foldl (· * ·) 1 ≤ best m := by
  obtain ⟨qs, h1, h2⟩ := prs_add q (m - q)
  rw [show q + (m - q) = m by omega] at h1
  have e : (prs m).filter (fun x => decide (x ≤ q)) = prs q := by
    rw [h1, List.filter_append]
    have e1 : (prs q).filter (fun x => decide (x ≤ q)) = prs q := List.filter_eq_self.mpr fun x hx => decide_eq_true (prs_mem.mp hx).1
    have e2 : qs.filter (fun x => decide (x ≤ q)) = [] := List.filter_eq_nil_iff.mpr fun x hx => by have := h2 x hx; simp; omega
    rw [e1, e2, List.append_nil]
  have := fold_ge (fun x => decide (x ≤ q)) (prs m) (fun _ => 1) m (by rw [e]; exact h)
  rw [e, Nat.one_mul] at this
  exact this
theorem upE_le {p m : Nat} {b : Nat → Nat} (hb : ∀ x, b x ≤ 2 ^ x) : ∀ e, upE p b m e ≤ 2 ^ m
  | 0 => hb m
  | e + 1 => by
    have ih := upE_le (p := p) (m := m) hb e
    unfold upE
    split
    · rename_i h
      refine Nat.max_le.mpr ⟨ih, ?_⟩
      have h1 : b (m - p ^ (e + 1)) * p ^ (e + 1) ≤ 2 ^ (m - p ^ (e + 1)) * 2 ^ (p ^ (e + 1)) := Nat.mul_le_mul (hb _) (Nat.le_of_lt Nat.lt_two_pow_self)
      rw [← Nat.pow_add, Nat.sub_add_cancel h] at h1
      exact h1
    · exact ih
theorem fold_le : ∀ (ps : List Nat) (b : Nat → Nat), (∀ x, b x ≤ 2 ^ x) → ∀ m, ps.foldl Np.up b m ≤ 2 ^ m
  | [], b, h, m => h m
  | p :: ps, b, h, m => by
    rw [List.foldl_cons]
    exact fold_le ps _ (fun x => upE_le h 12) m
theorem best_le (m : Nat) : best m ≤ 2 ^ m := fold_le _ _ (fun x => Nat.one_le_two_pow) m
theorem best90 : 5000 ≤ best 90 := Nat.le_trans (by decide +kernel : 5000 ≤ (prs 17).foldl (· * ·) 1) (best_ge (q := 17) (by decide) (by decide +kernel))
theorem best800 : 10 ^ 30 ≤ best 800 := Nat.le_trans (by decide +kernel : 10 ^ 30 ≤ (prs 79).foldl (· * ·) 1) (best_ge (q := 79) (by decide) (by decide +kernel))
theorem best_zero : best 0 = 1 := by decide +kernel
end Np
namespace Pu
open PySem Dn Lr L2 Ci Np
theorem fst_spec {t N n : Nat} (h : fst t N = some n) : n ≤ N ∧ t ≤ best n ∧ ∀ m, m < n → best m < t := by
  unfold fst at h
  obtain ⟨h1, as, bs, h2, h3⟩ := List.find?_eq_some_iff_append.mp h
  have hm : n ∈ List.range (N + 1) := by rw [h2]; simp
  rw [List.mem_range] at hm
  refine ⟨by omega, of_decide_eq_true h1, fun m hmn => ?_⟩
  have hal : as.length = n := by
    have e : (List.range (N + 1))[as.length]? = some n := by rw [h2]; simp
    rw [List.getElem?_range (by have := congrArg List.length h2; simp at this; omega)] at e
    exact Option.some.inj e
  have : m ∈ as := by
    have e : (List.range (N + 1))[m]? = some m := List.getElem?_range (by omega)
    rw [h2, List.getElem?_append_left (by omega)] at e
    exact List.mem_of_getElem? e
  have := h3 m this
  simp at this
  exact this
theorem fst_some {t N x : Nat} (hx : x ≤ N) (h : t ≤ best x) : ∃ n, fst t N = some n := by
  cases e : fst t N with
  | some n => exact ⟨n, rfl⟩
  | none =>
    unfold fst at e
    have := List.find?_eq_none.mp e x (List.mem_range.mpr (by omega))
    exact absurd (decide_eq_true h) this
theorem fst_eq {t N M n : Nat} (h : fst t N = some n) (hM : n ≤ M) : fst t M = some n := by
  obtain ⟨h1, h2, h3⟩ := fst_spec h
  obtain ⟨k, hk⟩ := fst_some (N := M) hM h2
  obtain ⟨k1, k2, k3⟩ := fst_spec hk
  have : k = n := by
    rcases Nat.lt_trichotomy k n with z | z | z
    · have := h3 k z; omega
    · exact z
    · have := k3 n z; omega
  rw [hk, this]
/-- least_for's answer -/
theorem least_for_ex {t : Nat} (h1 : 1 ≤ t) (h2 : t ≤ 10 ^ 30) : ∃ n, d_least_for [.int (t : Nat)] = .ok (.int (n : Nat)) .non ∧ n ≤ 2000 ∧ t ≤ best n ∧ ∀ m, m < n → best m < t := by
  cases e : fst t 200 with
  | some n =>
    obtain ⟨q1, q2, q3⟩ := fst_spec e
    exact ⟨n, least_for_ok h1 h2 (.inl e), by omega, q2, q3⟩
  | none =>
    obtain ⟨n, hn⟩ := fst_some (t := t) (N := 2000) (x := 800) (by omega) (Nat.le_trans h2 best800)
    obtain ⟨q1, q2, q3⟩ := fst_spec hn
    exact ⟨n, least_for_ok h1 h2 (.inr ⟨e, hn⟩), q1, q2, q3⟩
theorem least_cards_ok {n : Nat} (h1 : 1 ≤ n) (h2 : n ≤ 1000000000) : d_least_cards [.int (n : Nat)] = .ok (.int ((srt (powl n)).sum : Nat)) .non := by
  have hc : d_check_number [.int (n : Nat), .int 1000000000] = .ok .non .non := check_number_ok (n := n) (b := 1000000000) h1 h2
  exact run_val (b := b_least_cards) (env := [some (.int (n : Nat))]) rfl (seq_nx (expr_nx (call_ok (args2 rfl rfl) rfl hc)) (ret_val (fn1_val (call_rn (args1 rfl) rfl (powers_of_ok (fine_small h1 h2))) rfl bSum_ok)))
end Pu

/-! all shuffles of few cards -/
namespace Pu
open PySem Dn Lr L2 Ci Np
def exr (n : Nat) (r : List Nat) : List (List Nat) := ((List.range n).filter fun x => decide (x ∉ r)).map fun x => r ++ [x]
def ext (n : Nat) (rs : List (List Nat)) : List (List Nat) := rs.flatMap (exr n)
def shs (n : Nat) : Nat → List (List Nat)
  | 0 => [[]]
  | k + 1 => ext n (shs n k)
theorem exr_len {n : Nat} {r : List Nat} : (exr n r).length ≤ n := by
  unfold exr
  rw [List.length_map]
  exact Nat.le_trans (List.length_filter_le _ _) (by simp)
theorem ext_len {n : Nat} : ∀ rs : List (List Nat), (ext n rs).length ≤ rs.length * n
  | [] => by simp [ext]
  | r :: rs => by
    have := ext_len (n := n) rs
    unfold ext at this ⊢
    rw [List.flatMap_cons, List.length_append, List.length_cons, Nat.succ_mul]
    have := exr_len (n := n) (r := r)
    omega
theorem shs_row {n : Nat} : ∀ k, ∀ r ∈ shs n k, r.length = k ∧ r.Nodup ∧ ∀ x ∈ r, x < n
  | 0, r, h => by
    have : r = [] := by simpa [shs] using h
    subst this
    exact ⟨rfl, List.nodup_nil, fun x hx => by cases hx⟩
  | k + 1, r, h => by
    unfold shs ext at h
    obtain ⟨s, hs, hr⟩ := List.mem_flatMap.mp h
    obtain ⟨h1, h2, h3⟩ := shs_row k s hs
    unfold exr at hr
    obtain ⟨x, hx, rfl⟩ := List.mem_map.mp hr
    rw [List.mem_filter, List.mem_range] at hx
    have nx := of_decide_eq_true hx.2
    refine ⟨by simp [h1], ?_, fun y hy => ?_⟩
    · rw [List.nodup_append]
      refine ⟨h2, by simp, fun a ha b hb => ?_⟩
      rw [List.mem_singleton] at hb
      subst hb
      exact fun e => nx (e ▸ ha)
    · rcases List.mem_append.mp hy with z | z
      · exact h3 y z
      · rw [List.mem_singleton] at z; subst z; exact hx.1
theorem shs_sh {n : Nat} {r : List Nat} (h : r ∈ shs n n) : Sh r ∧ r.length = n := by
  obtain ⟨h1, h2, h3⟩ := shs_row n r h
  exact ⟨⟨h2, fun x hx => by rw [h1]; exact h3 x hx⟩, h1⟩
theorem shs_len {n : Nat} (hn : n ≤ 6) : ∀ k, k ≤ 6 → (shs n k).length ≤ 6 ^ k
  | 0, _ => by simp [shs]
  | k + 1, hk => by
    have h1 := shs_len hn k (by omega)
    have h2 := ext_len (n := n) (shs n k)
    unfold shs
    rw [Nat.pow_succ]
    exact Nat.le_trans h2 (Nat.mul_le_mul h1 hn)
theorem six : (6 : Nat) ^ 6 = 46656 := by decide
theorem shs_few {n k : Nat} (hn : n ≤ 6) (hk : k ≤ 6) : (shs n k).length ≤ 46656 := by
  refine Nat.le_trans (shs_len hn k hk) ?_
  rw [← six]
  exact Nat.pow_le_pow_right (by omega) hk
/-! the program's -/
abbrev asT : DT := dTest (dOp gNotInV (dVar 4) (dVar 3))
abbrev asE : DE := dDisp .tup (aStar (dVar 3) (aCons (dVar 4) aNil))
theorem notin_t {xs : List Nat} {x : Nat} : gNotInV (.int (x : Nat)) (.tup (tn xs)) = some (.bl (decide (x ∉ xs))) := by
  unfold gNotInV
  rw [in_t]
  by_cases h : x ∈ xs <;> simp [h]
theorem clean_app : ∀ (xs : List D) (y : D), clean (xs.map Rv.val ++ [Rv.val y]) = some (xs ++ [y])
  | [], y => rfl
  | x :: xs, y => by
    rw [List.map_cons, List.cons_append]
    unfold clean
    rw [clean_app xs y]
    rfl
theorem star_snoc {r : List Nat} {x : Nat} {a b c : Option D} (hr : r.length ≤ 100) : asE [a, b, c, some (.tup (tn r)), some (.int (x : Nat))] = .ok (.val (.tup (tn (r ++ [x])))) [a, b, c, some (.tup (tn r)), some (.int (x : Nat))] := by
  have h1 : aStar (dVar 3) (aCons (dVar 4) aNil) [a, b, c, some (.tup (tn r)), some (.int (x : Nat))] = .ok ((tn r).map Rv.val ++ [.val (.int (x : Nat))]) [a, b, c, some (.tup (tn r)), some (.int (x : Nat))] := rfl
  have h2 := disp_l (g := D.tup) h1 (clean_app (tn r) (.int (x : Nat))) (by simp; omega)
  rw [show tn r ++ [D.int (x : Nat)] = tn (r ++ [x]) by simp [tn]] at h2
  exact h2
theorem as_in {n : Nat} {r : List Nat} {b c v : Option D} {acc : List D} (hn : n ≤ 6) (hr : r.length ≤ 100) (ha : acc.length + n ≤ 1000000) :
    ∃ v', compL [4] (gN 4) asT asE (tn (List.range n)) acc [some (.int (n : Nat)), b, c, some (.tup (tn r)), v] = .ok (acc ++ trow (exr n r)) [some (.int (n : Nat)), b, c, some (.tup (tn r)), v'] := by
  obtain ⟨env', q1, q2⟩ := compL_pure (i := 4) (t := asT) (e := asE) (env := [some (.int (n : Nat)), b, c, some (.tup (tn r)), none]) (fun d => match d with | .int z => decide (z.toNat ∉ r) | _ => false) (fun d => match d with | .int z => .tup (tn (r ++ [z.toNat])) | _ => .non) (tn (List.range n)) acc [some (.int (n : Nat)), b, c, some (.tup (tn r)), v] (fun d hd => by
    obtain ⟨x, hx, rfl⟩ := List.mem_map.mp hd
    exact ⟨test_op rfl rfl rfl rfl notin_t, fun _ => star_snoc hr⟩) (fun y => rfl) (by simpa using ha)
  have he : ∃ v', env' = [some (.int (n : Nat)), b, c, some (.tup (tn r)), v'] := by
    have h1 := q2 none
    match env', h1 with
    | [e0, e1, e2, e3, e4], h1 =>
      have h2 : [e0, e1, e2, e3, none] = [some (.int (n : Nat)), b, c, some (.tup (tn r)), none] := h1
      injection h2 with z0 h2
      injection h2 with z1 h2
      injection h2 with z2 h2
      injection h2 with z3 h2
      subst z0 z1 z2 z3
      exact ⟨e4, rfl⟩
    | [], h1 => cases h1
    | [_], h1 => cases h1
    | [_, _], h1 => cases h1
    | [_, _, _], h1 => cases h1
    | [_, _, _, _], h1 => cases h1
    | _ :: _ :: _ :: _ :: _ :: _ :: _, h1 => have := congrArg List.length h1; simp at this
  obtain ⟨v', rfl⟩ := he
  refine ⟨v', ?_⟩
  rw [q1]
  congr 2
  unfold exr trow tn
  rw [List.filter_map, List.map_map, List.map_map]
  rfl
theorem as_out {n : Nat} {b c : Option D} (hn : n ≤ 6) : ∀ (rs : List (List Nat)) (acc : List D) (v3 v4 : Option D), (∀ r ∈ rs, r.length ≤ 100) → acc.length + rs.length * n ≤ 1000000 →
    ∃ v3' v4', comp2L [3, 4] [4] (gN 3) dYes (iFn range1 (aCons (dVar 0) aNil)) (gN 4) asT asE (trow rs) acc [some (.int (n : Nat)), b, c, v3, v4] = .ok (acc ++ trow (ext n rs)) [some (.int (n : Nat)), b, c, v3', v4']
  | [], acc, v3, v4, _, _ => ⟨v3, v4, by simp [trow, ext, comp2L]⟩
  | r :: rs, acc, v3, v4, h, hl => by
    have hr := h r (List.mem_cons_self ..)
    rw [List.length_cons, Nat.succ_mul] at hl
    obtain ⟨w, h1⟩ := as_in (n := n) (r := r) (b := b) (c := c) (v := none) (acc := acc) hn hr (by omega)
    have hx := exr_len (n := n) (r := r)
    obtain ⟨v3', v4', h2⟩ := as_out (b := b) (c := c) hn rs (acc ++ trow (exr n r)) (some (.tup (tn r))) w (fun x hx => h x (List.mem_cons_of_mem _ hx)) (by simp [trow]; omega)
    refine ⟨v3', v4', ?_⟩
    show comp2L [3, 4] [4] (gN 3) dYes (iFn range1 (aCons (dVar 0) aNil)) (gN 4) asT asE (D.tup (tn r) :: trow rs) acc _ = _
    unfold comp2L
    have g1 : gN 3 (D.tup (tn r)) (wipeE [some (.int (n : Nat)), b, c, v3, v4] [3, 4]) = some [some (.int (n : Nat)), b, c, some (.tup (tn r)), none] := rfl
    rw [g1]
    dsimp only [dYes]
    rw [fn_range1 (a := dVar 0) (x := n) rfl (by omega)]
    dsimp only
    rw [h1]
    dsimp only
    rw [h2]
    have : trow (ext n (r :: rs)) = trow (exr n r) ++ trow (ext n rs) := by unfold ext trow; rw [List.flatMap_cons, List.map_append]
    rw [this, List.append_assoc]
abbrev asB : DS := sSet 1 (dComp2 [3, 4] [4] (iAny (dVar 1)) (gN 3) dYes (iFn range1 (aCons (dVar 0) aNil)) (gN 4) asT asE)
theorem as_step {n k : Nat} {c : Option D} (hn : n ≤ 6) (hk : k < 6) : asB [some (.int (n : Nat)), some (.lst (trow (shs n k))), c, none, none] = .nx [some (.int (n : Nat)), some (.lst (trow (shs n (k + 1)))), c, none, none] := by
  have hl := shs_few (n := n) (k := k) hn (by omega)
  obtain ⟨v3, v4, h⟩ := as_out (n := n) (b := some (.lst (trow (shs n k)))) (c := c) hn (shs n k) [] none none (fun r hr => by have := (shs_row k r hr).1; omega) (by simp; have : (shs n k).length * n ≤ 46656 * 6 := Nat.mul_le_mul hl hn; omega)
  rw [List.nil_append] at h
  have hc : dComp2 [3, 4] [4] (iAny (dVar 1)) (gN 3) dYes (iFn range1 (aCons (dVar 0) aNil)) (gN 4) asT asE [some (.int (n : Nat)), some (.lst (trow (shs n k))), c, none, none] = .ok (.val (.lst (trow (shs n (k + 1))))) [some (.int (n : Nat)), some (.lst (trow (shs n k))), c, none, none] := by
    unfold dComp2
    rw [any_lst (a := dVar 1) (xs := trow (shs n k)) rfl]
    dsimp only
    rw [h]
    rfl
  exact set_val hc
theorem all_shuffles_ok {n : Nat} (hn : n ≤ 6) : d_all_shuffles [.int (n : Nat)] = .ok (.lst (trow (shs n n))) .non := by
  obtain ⟨env', q1, k, c, h1, he⟩ := forL_inv (g := gN 2) (b := asB) (fun rem env => ∃ (k : Nat) (c : Option D), k + rem.length = n ∧ env = [some (.int (n : Nat)), some (.lst (trow (shs n k))), c, none, none]) (fun x rem env ⟨k, c, hk, he⟩ => by
    subst he
    rw [List.length_cons] at hk
    exact ⟨_, _, rfl, as_step (c := some x) hn (by omega), k + 1, some x, by omega, rfl⟩) (tn (List.range n)) [some (.int (n : Nat)), some (.lst (trow (shs n 0))), none, none, none] ⟨0, none, by simp, rfl⟩
  have hk : k = n := by simpa using h1
  subst hk
  rw [he] at q1
  exact run_val (b := b_all_shuffles) (env := [some (.int (k : Nat)), none, none, none, none]) rfl (seq_nx (set_val rfl) (seq_nx (for_nx (fn_range1 (x := k) rfl (by omega)) q1) (ret_val rfl)))
/-! the law's -/
abbrev evE : DE := dOp gAdd (dVar 4) (dDisp .tup (aCons (dVar 5) aNil))
abbrev evB : DS := sSet 3 (dOp gAdd (dVar 3) (dComp [5] (iFn range1 (aCons (dVar 0) aNil)) (gN 5) (dTest (dOp gNotInV (dVar 5) (dVar 4))) evE))
theorem gAdd_tl {a b : List D} (h : a.length + b.length ≤ 1000000) : gAdd (.tup a) (.tup b) = some (.tup (a ++ b)) := by
  show (if a.length + b.length ≤ 1000000 then _ else _) = _
  rw [if_pos h]
theorem gAdd_li {a b : List D} (h : a.length + b.length ≤ 1000000) : gAdd (.lst a) (.lst b) = some (.lst (a ++ b)) := by
  show (if a.length + b.length ≤ 1000000 then _ else _) = _
  rw [if_pos h]
theorem ev_row {n : Nat} {r : List Nat} {b c v : Option D} {acc : List (List Nat)} (hn : n ≤ 6) (hr : r.length ≤ 100) (ha : acc.length + n ≤ 1000000) :
    evB [some (.int (n : Nat)), b, c, some (.lst (trow acc)), some (.tup (tn r)), v] = .nx [some (.int (n : Nat)), b, c, some (.lst (trow (acc ++ exr n r))), some (.tup (tn r)), v] := by
  have hc := comp_nn (i := 5) (it := iFn range1 (aCons (dVar 0) aNil)) (t := dTest (dOp gNotInV (dVar 5) (dVar 4))) (e := evE) (env := [some (.int (n : Nat)), b, c, some (.lst (trow acc)), some (.tup (tn r)), v]) (List.range n) (fun x => decide (x ∉ r)) (fun x => .tup (tn (r ++ [x]))) (fn_range1 (x := n) rfl (by omega)) (by simp) (by simp; omega) (fun x hx => ⟨test_op rfl rfl rfl rfl notin_t, fun _ => by
    have h := gAdd_tl (a := tn r) (b := [.int (x : Nat)]) (by simp; omega)
    rw [show tn r ++ [D.int (x : Nat)] = tn (r ++ [x]) by simp [tn]] at h
    exact op_val rfl rfl rfl rfl h⟩)
  have e1 : ((List.range n).filter fun x => decide (x ∉ r)).map (fun x => D.tup (tn (r ++ [x]))) = trow (exr n r) := by unfold exr trow; rw [List.map_map]; rfl
  rw [e1] at hc
  have hx := exr_len (n := n) (r := r)
  have h2 := gAdd_li (a := trow acc) (b := trow (exr n r)) (by simp [trow]; omega)
  rw [show trow acc ++ trow (exr n r) = trow (acc ++ exr n r) by unfold trow; rw [List.map_append]] at h2
  exact set_val (op_val rfl hc rfl rfl h2)
theorem ev_rows {n : Nat} {b c : Option D} (hn : n ≤ 6) : ∀ (rs : List (List Nat)) (acc : List (List Nat)) (v4 : Option D), (∀ r ∈ rs, r.length ≤ 100) → acc.length + rs.length * n ≤ 1000000 →
    ∃ v4', forL (gN 4) evB (trow rs) [some (.int (n : Nat)), b, c, some (.lst (trow acc)), v4, none] = .nx [some (.int (n : Nat)), b, c, some (.lst (trow (acc ++ ext n rs))), v4', none]
  | [], acc, v4, _, _ => ⟨v4, by simp [trow, ext, forL]⟩
  | r :: rs, acc, v4, h, hl => by
    rw [List.length_cons, Nat.succ_mul] at hl
    have hx := exr_len (n := n) (r := r)
    have h1 := ev_row (n := n) (r := r) (b := b) (c := c) (v := none) (acc := acc) hn (h r (List.mem_cons_self ..)) (by omega)
    obtain ⟨v4', h2⟩ := ev_rows (b := b) (c := c) hn rs (acc ++ exr n r) (some (.tup (tn r))) (fun x hx => h x (List.mem_cons_of_mem _ hx)) (by simp; omega)
    refine ⟨v4', ?_⟩
    have : acc ++ ext n (r :: rs) = (acc ++ exr n r) ++ ext n rs := by unfold ext; rw [List.flatMap_cons, List.append_assoc]
    rw [this]
    exact forL_nx rfl h1 h2
abbrev evO : DS := (sSeq (sSet 3 (dDisp .lst aNil)) (sSeq (sFor (iAny (dVar 1)) (gN 4) evB) (sSet 1 (dVar 3))))
theorem every_ok {n : Nat} (hn : n ≤ 6) : d_l_every [.int (n : Nat)] = .ok (.lst (trow (shs n n))) .non := by
  obtain ⟨env', q1, k, c, v3, v4, h1, he⟩ := forL_inv (g := gN 2) (b := evO) (fun rem env => ∃ (k : Nat) (c v3 v4 : Option D), k + rem.length = n ∧ env = [some (.int (n : Nat)), some (.lst (trow (shs n k))), c, v3, v4, none]) (fun x rem env ⟨k, c, v3, v4, hk, he⟩ => by
    subst he
    rw [List.length_cons] at hk
    have hl := shs_few (n := n) (k := k) hn (by omega)
    obtain ⟨w4, h⟩ := ev_rows (n := n) (b := some (.lst (trow (shs n k)))) (c := some x) hn (shs n k) [] v4 (fun r hr => by have := (shs_row k r hr).1; omega) (by simp; have : (shs n k).length * n ≤ 46656 * 6 := Nat.mul_le_mul hl hn; omega)
    rw [List.nil_append] at h
    have a1 : sSet 3 (dDisp .lst aNil) [some (.int (n : Nat)), some (.lst (trow (shs n k))), some x, v3, v4, none] = .nx [some (.int (n : Nat)), some (.lst (trow (shs n k))), some x, some (.lst (trow [])), v4, none] := rfl
    exact ⟨_, _, rfl, seq_nx a1 (seq_nx (for_nx (any_lst rfl) h) (set_val rfl)), k + 1, some x, some (.lst (trow (shs n (k + 1)))), w4, by omega, rfl⟩) (tn (List.range n)) [some (.int (n : Nat)), some (.lst (trow (shs n 0))), none, none, none, none] ⟨0, none, none, none, by simp, rfl⟩
  have hk : k = n := by simpa using h1
  subst hk
  rw [he] at q1
  exact run_val (b := b_l_every) (env := [some (.int (k : Nat)), none, none, none, none, none]) rfl (seq_nx (set_val rfl) (seq_nx (for_nx (fn_range1 (x := k) rfl (by omega)) q1) (ret_val rfl)))
end Pu

/-! _law_kinds -/
namespace Pu
open PySem Dn Lr L2 Ci Np
/-- the ascending rows of numbers from k on that sum to n -/
def kd : Nat → Nat → Nat → List (List Nat)
  | 0, _, _ => []
  | f + 1, n, k => (rg k (n + 1)).foldl (fun acc l => acc ++ (kd f (n - l) l).map (l :: ·)) (if n = 0 then [[]] else [])
theorem fold_app {α : Type} (g : Nat → List α) : ∀ (l : List Nat) (a : List α), l.foldl (fun acc x => acc ++ g x) a = a ++ l.flatMap g
  | [], a => by simp
  | x :: l, a => by rw [List.foldl_cons, fold_app g l]; simp
theorem kd_eq {f n k : Nat} : kd (f + 1) n k = (if n = 0 then [[]] else []) ++ (rg k (n + 1)).flatMap fun l => (kd f (n - l) l).map (l :: ·) := by
  rw [kd, fold_app fun l => (kd f (n - l) l).map (l :: ·)]
theorem kd_fuel : ∀ (f n k : Nat), n < f → 1 ≤ k → kd f n k = kd (n + 1) n k
  | 0, n, k, h, _ => by omega
  | f + 1, n, k, h, hk => by
    rw [kd_eq, kd_eq]
    congr 1
    have : ∀ (l : List Nat), (∀ x ∈ l, 1 ≤ x ∧ x ≤ n) → l.flatMap (fun l => (kd f (n - l) l).map (l :: ·)) = l.flatMap (fun l => (kd n (n - l) l).map (l :: ·)) := by
      intro l
      induction l with
      | nil => intro _; rfl
      | cons x l ih =>
        intro hx
        have := hx x (List.mem_cons_self ..)
        rw [List.flatMap_cons, List.flatMap_cons, ih fun y hy => hx y (List.mem_cons_of_mem _ hy), kd_fuel f (n - x) x (by omega) this.1, kd_fuel n (n - x) x (by omega) this.1]
    exact this _ fun x hx => by have := rg_mem.mp hx; omega
  termination_by f n => f + n
theorem kd_sum : ∀ (f n k : Nat), 1 ≤ k → ∀ r ∈ kd f n k, r.sum = n ∧ ∀ x ∈ r, k ≤ x
  | 0, n, k, _, r, h => by simp [kd] at h
  | f + 1, n, k, hk, r, h => by
    rw [kd_eq, List.mem_append] at h
    rcases h with h | h
    · split at h
      · simp at h; subst h; exact ⟨by simp; omega, by simp⟩
      · simp at h
    · obtain ⟨l, hl, hr⟩ := List.mem_flatMap.mp h
      obtain ⟨s, hs, rfl⟩ := List.mem_map.mp hr
      obtain ⟨h1, h2⟩ := rg_mem.mp hl
      obtain ⟨q1, q2⟩ := kd_sum f (n - l) l (by omega) s hs
      refine ⟨by rw [List.sum_cons, q1]; omega, fun x hx => ?_⟩
      rcases List.mem_cons.mp hx with rfl | hx
      · exact h1
      · have := q2 x hx; omega
theorem rg_split {a b c : Nat} (h1 : a ≤ b) (h2 : b ≤ c) : rg a c = rg a b ++ rg b c := by
  unfold rg
  rw [show c - a = (b - a) + (c - b) by omega, List.range_add, List.map_append, List.map_map]
  congr 1
  refine List.map_congr_left fun i _ => ?_
  simp only [Function.comp]
  omega
/-! a measure over all rows, by two branches: the least number is taken, or passed by -/
theorem kd_zero {k : Nat} (hk : 1 ≤ k) : kd 1 0 k = [[]] := by rw [kd_eq, rg_nil (by omega)]; rfl
theorem kd_none {n k : Nat} (h0 : 0 < n) (h : n < k) : kd (n + 1) n k = [] := by rw [kd_eq, rg_nil (by omega), if_neg (by omega)]; rfl
theorem kd_two {n k : Nat} (h0 : 0 < n) (hk : 1 ≤ k) (h : k ≤ n) : kd (n + 1) n k = (kd (n - k + 1) (n - k) k).map (k :: ·) ++ kd (n + 1) n (k + 1) := by
  rw [kd_eq, kd_eq (k := k + 1), if_neg (by omega), rg_cons (by omega), List.flatMap_cons, kd_fuel n (n - k) k (by omega) hk]
  rfl
def kc : Nat → Nat → Nat → Nat
  | 0, _, _ => 0
  | f + 1, n, k => match n with
    | 0 => 1
    | n + 1 => if n + 1 < k then 0 else kc f (n + 1 - k) k + kc f (n + 1) (k + 1)
theorem kc_ok : ∀ (f n k : Nat), 1 ≤ k → n + (n + 1 - k) < f → kc f n k = (kd (n + 1) n k).length
  | 0, n, k, _, h => by omega
  | f + 1, 0, k, hk, h => by rw [kd_zero hk]; rfl
  | f + 1, n + 1, k, hk, h => by
    unfold kc
    dsimp only
    by_cases z : n + 1 < k
    · rw [if_pos z, kd_none (by omega) z]; rfl
    · rw [if_neg z, kd_two (by omega) hk (by omega), List.length_append, List.length_map, kc_ok f (n + 1 - k) k hk (by omega), kc_ok f (n + 1) (k + 1) (by omega) (by omega)]
theorem kc_all : ∀ n, n < 25 → kc 60 n 1 ≤ 2000 := by decide +kernel
theorem kd_lens (n : Nat) (h : n < 25) : (kd (n + 1) n 1).length ≤ 2000 := by
  rw [← kc_ok 60 n 1 (by omega) (by omega)]
  exact kc_all n h
theorem kd_len {f n k : Nat} (hf : n < f) (hn : n < 25) (hk : 1 ≤ k) : (kd f n k).length ≤ 2000 := by
  rw [kd_fuel f n k hf hk]
  refine Nat.le_trans ?_ (kd_lens n hn)
  rw [kd_eq, kd_eq]
  by_cases h : k ≤ n + 1
  · rw [rg_split (a := 1) (b := k) (c := n + 1) hk h, List.flatMap_append]
    simp only [List.length_append]
    omega
  · rw [rg_nil (a := k) (by omega)]
    simp only [List.length_append, List.flatMap_nil, List.length_nil]
    omega
theorem sum_len : ∀ {r : List Nat}, (∀ x ∈ r, 1 ≤ x) → r.length ≤ r.sum
  | [], _ => by simp
  | x :: r, h => by
    have := sum_len (r := r) fun y hy => h y (List.mem_cons_of_mem _ hy)
    have := h x (List.mem_cons_self ..)
    rw [List.length_cons, List.sum_cons]
    omega
theorem mem_sum : ∀ {r : List Nat} {x : Nat}, x ∈ r → x ≤ r.sum
  | y :: r, x, h => by
    rw [List.sum_cons]
    rcases List.mem_cons.mp h with rfl | h
    · omega
    · have := mem_sum h; omega
theorem kd_row {f n k : Nat} (hk : 1 ≤ k) {r : List Nat} (h : r ∈ kd f n k) : r.length ≤ n ∧ ∀ x ∈ r, 0 < x ∧ x ≤ n := by
  obtain ⟨h1, h2⟩ := kd_sum f n k hk r h
  refine ⟨by rw [← h1]; exact sum_len fun x hx => by have := h2 x hx; omega, fun x hx => ⟨by have := h2 x hx; omega, ?_⟩⟩
  rw [← h1]
  exact mem_sum hx
theorem trow_len {rs : List (List Nat)} : (trow rs).length = rs.length := by simp [trow]
theorem gAdd_ll {a b : List D} (h : a.length + b.length ≤ 1000000) : gAdd (.lst a) (.lst b) = some (.lst (a ++ b)) := by
  show (if a.length + b.length ≤ 1000000 then _ else _) = _
  rw [if_pos h]
theorem gAdd_tt {a b : List D} (h : a.length + b.length ≤ 1000000) : gAdd (.tup a) (.tup b) = some (.tup (a ++ b)) := by
  show (if a.length + b.length ≤ 1000000 then _ else _) = _
  rw [if_pos h]
/-- a comprehension over rows -/
theorem comp_row {i : Nat} {it : DI} {t : DT} {e : DE} {env : Dn.Env} (xs : List (List Nat)) (ft : List Nat → Bool) (fe : List Nat → D) (hit : it env = .ok (trow xs) env) (hi : i < env.length) (hl : xs.length ≤ 1000000)
    (h : ∀ x ∈ xs, t (env.set i (some (.tup (tn x)))) = .ok (ft x) (env.set i (some (.tup (tn x)))) ∧ (ft x = true → e (env.set i (some (.tup (tn x)))) = .ok (.val (fe x)) (env.set i (some (.tup (tn x)))))) :
    dComp [i] it (gN i) t e env = .ok (.val (.lst ((xs.filter ft).map fe))) env := by
  have key : ∀ (xs : List (List Nat)) (acc : List D) (env1 : Dn.Env), (∀ x ∈ xs, t (env.set i (some (.tup (tn x)))) = .ok (ft x) (env.set i (some (.tup (tn x)))) ∧ (ft x = true → e (env.set i (some (.tup (tn x)))) = .ok (.val (fe x)) (env.set i (some (.tup (tn x)))))) →
      (∀ y, env1.set i y = env.set i y) → acc.length + xs.length ≤ 1000000 → ∃ env', compL [i] (gN i) t e (trow xs) acc env1 = .ok (acc ++ (xs.filter ft).map fe) env' ∧ ∀ y, env'.set i y = env.set i y := by
    intro xs
    induction xs with
    | nil => intro acc env1 _ h1 _; exact ⟨env1, by simp [trow, compL], h1⟩
    | cons x xs ih =>
      intro acc env1 h h1 hl
      obtain ⟨ht, he⟩ := h x (List.mem_cons_self ..)
      have e1 : (wipeE env1 [i]).set i (some (.tup (tn x))) = env.set i (some (.tup (tn x))) := by rw [wipe1, h1, List.set_set]
      have nx : ∀ y, (env.set i (some (.tup (tn x)))).set i y = env.set i y := fun y => by rw [List.set_set]
      have hl' : acc.length < 1000000 := by simp at hl; omega
      show ∃ env', compL [i] (gN i) t e (D.tup (tn x) :: trow xs) acc env1 = _ ∧ _
      cases hf : ft x with
      | true =>
        obtain ⟨env', q1, q2⟩ := ih (acc ++ [fe x]) (env.set i (some (.tup (tn x)))) (fun y hy => h y (List.mem_cons_of_mem _ hy)) nx (by simp at hl ⊢; omega)
        refine ⟨env', ?_, q2⟩
        unfold compL
        rw [show gN i (.tup (tn x)) (wipeE env1 [i]) = some ((wipeE env1 [i]).set i (some (.tup (tn x)))) from rfl, e1]
        dsimp only
        rw [ht, hf]
        dsimp only
        rw [he hf]
        dsimp only
        rw [decide_eq_true hl']
        dsimp only
        rw [q1]
        simp [hf]
      | false =>
        obtain ⟨env', q1, q2⟩ := ih acc (env.set i (some (.tup (tn x)))) (fun y hy => h y (List.mem_cons_of_mem _ hy)) nx (by simp at hl ⊢; omega)
        refine ⟨env', ?_, q2⟩
        unfold compL
        rw [show gN i (.tup (tn x)) (wipeE env1 [i]) = some ((wipeE env1 [i]).set i (some (.tup (tn x)))) from rfl, e1]
        dsimp only
        rw [ht, hf]
        dsimp only
        rw [q1]
        simp [hf]
  obtain ⟨env', q1, q2⟩ := key xs [] env h (fun _ => rfl) (by simpa using hl)
  unfold dComp
  rw [hit]
  dsimp only
  rw [q1]
  dsimp only
  rw [res1 (List.getElem?_eq_getElem hi), q2]
  simp
theorem l_kinds_ok : ∀ {f n k : Nat}, n < f → n < 25 → 1 ≤ k → k < 1000 → d_l_kinds f [.int (n : Nat), .int (k : Nat)] = .ok (.lst (trow (kd f n k))) .non
  | 0, n, k, h, _, _, _ => by omega
  | f + 1, n, k, h, hn, hk, hk2 => by
    obtain ⟨env', q1, q2⟩ := forL_foldR (g := gN 3) (b := sSet 2 (dOp gAdd (dVar 2) (dComp [4] (iAny (dCall (d_l_kinds f) (aCons (dOp gSubt (dVar 0) (dVar 3)) (aCons (dVar 3) aNil)))) (gN 4) dYes (dOp gAdd (dDisp .tup (aCons (dVar 3) aNil)) (dVar 4)))))
      (fun rem (acc : List (List Nat)) env => (∀ y ∈ rem, 1 ≤ y ∧ y ≤ n) ∧ (rem.foldl (fun acc l => acc ++ (kd f (n - l) l).map (l :: ·)) acc).length ≤ 2000 ∧ ∃ v3 v4, env = [some (.int (n : Nat)), some (.int (k : Nat)), some (.lst (trow acc)), v3, v4]) (fun acc l => acc ++ (kd f (n - l) l).map (l :: ·)) (fun x r acc env ⟨h1, h2, v3, v4, he⟩ => by
        subst he
        obtain ⟨hx, hx2⟩ := h1 x (List.mem_cons_self ..)
        rw [List.foldl_cons] at h2
        have hlen : (acc ++ (kd f (n - x) x).map (x :: ·)).length ≤ 2000 := by
          rw [fold_app fun l => (kd f (n - l) l).map (l :: ·)] at h2
          rw [List.length_append] at h2
          omega
        have ih := l_kinds_ok (f := f) (n := n - x) (k := x) (by omega) (by omega) hx (by omega)
        have s1 := gSub_n (a := n) (b := x) hx2
        have hc := comp_row (i := 4) (it := iAny (dCall (d_l_kinds f) (aCons (dOp gSubt (dVar 0) (dVar 3)) (aCons (dVar 3) aNil)))) (t := dYes) (e := dOp gAdd (dDisp .tup (aCons (dVar 3) aNil)) (dVar 4)) (env := [some (.int (n : Nat)), some (.int (k : Nat)), some (.lst (trow acc)), some (.int (x : Nat)), v4]) (kd f (n - x) x) (fun _ => true) (fun r => .tup (tn (x :: r))) (any_lst (call_ok (args2 (op_val rfl rfl rfl rfl s1) rfl) rfl ih)) (by simp) (by rw [List.length_append, List.length_map] at hlen; omega) (fun r hr => by
          have hrl := (kd_row (by omega) hr).1
          exact ⟨rfl, fun _ => op_val rfl rfl rfl rfl (gAdd_tt (a := [.int (x : Nat)]) (b := tn r) (by simp; omega))⟩)
        rw [List.filter_eq_self.mpr (by simp)] at hc
        refine ⟨_, _, rfl, set_val (op_val rfl hc rfl rfl (gAdd_ll (by rw [trow_len, List.length_map]; rw [List.length_append, List.length_map] at hlen; omega))), fun y hy => h1 y (List.mem_cons_of_mem _ hy), h2, some (.int (x : Nat)), v4, ?_⟩
        have e : trow acc ++ (kd f (n - x) x).map (fun r => D.tup (tn (x :: r))) = trow (acc ++ (kd f (n - x) x).map (x :: ·)) := by
          unfold trow
          rw [List.map_append, List.map_map]
          rfl
        rw [e]
        rfl) (rg k (n + 1)) (if n = 0 then [[]] else []) [some (.int (n : Nat)), some (.int (k : Nat)), some (.lst (trow (if n = 0 then [[]] else []))), none, none]
        ⟨fun y hy => by have := rg_mem.mp hy; omega, kd_len (f := f + 1) h hn hk, none, none, rfl⟩
    obtain ⟨_, _, v3, v4, he⟩ := q2
    have t1 : dTest (dOp gEq (dVar 0) (dC (.int 0))) [some (.int (n : Nat)), some (.int (k : Nat)), none, none, none] = .ok (decide (n = 0)) [some (.int (n : Nat)), some (.int (k : Nat)), none, none, none] := test_op rfl rfl rfl rfl (gEq_n (a := n) (b := 0))
    have hd : dIf (dTest (dOp gEq (dVar 0) (dC (.int 0)))) (dDisp .lst (aCons (dDisp .tup aNil) aNil)) (dDisp .lst aNil) [some (.int (n : Nat)), some (.int (k : Nat)), none, none, none] = .ok (.val (.lst (trow (if n = 0 then [[]] else [])))) [some (.int (n : Nat)), some (.int (k : Nat)), none, none, none] := by
      refine if_val t1 ?_
      by_cases hz : n = 0
      · rw [decide_eq_true hz, if_pos hz]; rfl
      · rw [decide_eq_false hz, if_neg hz]; rfl
    rw [he] at q1
    exact run_val (b := b_l_kinds (d_l_kinds f)) (env := [some (.int (n : Nat)), some (.int (k : Nat)), none, none, none]) rfl (seq_nx (set_val hd) (seq_nx (for_nx (fn_range2 rfl (op_val rfl rfl rfl rfl (gAdd_n (a := n) (b := 1))) (by omega) (by omega)) q1) (ret_val rfl)))
/-! the greatest of all rounds -/
def km : Nat → Nat → Nat → Nat → Nat
  | 0, _, _, _ => 0
  | f + 1, n, k, a => match n with
    | 0 => a
    | n + 1 => if n + 1 < k then 0 else max (km f (n + 1 - k) k (Nat.lcm a k)) (km f (n + 1) (k + 1) a)
theorem fold_max : ∀ (l : List Nat) (a : Nat), l.foldl max a = max a (l.foldl max 0)
  | [], a => by simp
  | x :: l, a => by rw [List.foldl_cons, List.foldl_cons, fold_max l (max a x), fold_max l (max 0 x)]; omega
theorem km_ok : ∀ (f n k a : Nat), 1 ≤ k → n + (n + 1 - k) < f → km f n k a = ((kd (n + 1) n k).map fun r => r.foldl Nat.lcm a).foldl max 0
  | 0, n, k, a, _, h => by omega
  | f + 1, 0, k, a, hk, h => by rw [kd_zero hk]; simp [km]
  | f + 1, n + 1, k, a, hk, h => by
    unfold km
    dsimp only
    by_cases z : n + 1 < k
    · rw [if_pos z, kd_none (by omega) z]; rfl
    · rw [if_neg z, kd_two (by omega) hk (by omega), List.map_append, List.map_map, List.foldl_append, fold_max (((kd (n + 1 + 1) (n + 1) (k + 1)).map _)), km_ok f (n + 1 - k) k _ hk (by omega), km_ok f (n + 1) (k + 1) a (by omega) (by omega)]
      rfl
/-- a table by lists -/
def upL (N : Nat) (t : List Nat) (p : Nat) : List Nat := (List.range (N + 1)).map fun m => upE p (fun x => t.getD x 0) m 12
theorem upE_congr {p m : Nat} {b c : Nat → Nat} (h : ∀ x, x ≤ m → b x = c x) : ∀ e, upE p b m e = upE p c m e
  | 0 => h m (Nat.le_refl _)
  | e + 1 => by
    unfold upE
    rw [upE_congr h e, h (m - p ^ (e + 1)) (by omega)]
theorem range_getD {N m : Nat} {f : Nat → Nat} (h : m ≤ N) : ((List.range (N + 1)).map f).getD m 0 = f m := by
  rw [List.getD_eq_getElem?_getD, List.getElem?_map, List.getElem?_range (by omega)]
  rfl
theorem upL_fold {N : Nat} : ∀ (ps : List Nat) (t : List Nat) (b : Nat → Nat), (∀ x, x ≤ N → t.getD x 0 = b x) → ∀ m, m ≤ N → (ps.foldl (upL N) t).getD m 0 = ps.foldl Np.up b m
  | [], t, b, h, m, hm => h m hm
  | p :: ps, t, b, h, m, hm => by
    rw [List.foldl_cons, List.foldl_cons]
    refine upL_fold ps _ _ (fun x hx => ?_) m hm
    unfold upL
    rw [range_getD hx]
    exact upE_congr (fun y hy => h y (by omega)) 12
theorem best_L {N m : Nat} (h : m ≤ N) : best m = ((prs N).foldl (upL N) (List.replicate (N + 1) 1)).getD m 0 := by
  rw [upL_fold (prs N) _ (fun _ => 1) (fun x hx => by rw [List.getD_eq_getElem?_getD, List.getElem?_replicate, if_pos (by omega)]; rfl) m h]
  exact (tab_best h).symm
theorem km_all : ∀ n, n < 21 → km 60 n 1 1 = ((prs 20).foldl (upL 20) (List.replicate 21 1)).getD n 0 := by decide +kernel
theorem kd_best (n : Nat) (h : n < 21) : ((kd (n + 1) n 1).map lcmL).foldl max 0 = best n := by
  rw [best_L (N := 20) (by omega), ← km_all n h, km_ok 60 n 1 1 (by omega) (by omega)]
  rfl
end Pu

/-! shuffles told back -/
namespace Pu
open PySem Dn Lr L2 Ci Np
/-! the rows rise -/
def ltN : List Nat → List Nat → Bool
  | [], [] => false
  | [], _ :: _ => true
  | _ :: _, [] => false
  | a :: as, b :: bs => if a = b then ltN as bs else decide (a < b)
theorem ltN_app : ∀ {r r' : List Nat} {s s' : List Nat}, r.length = r'.length → ltN r r' = true → ltN (r ++ s) (r' ++ s') = true
  | [], [], s, s', _, h => by cases h
  | [], _ :: _, s, s', hl, _ => by simp at hl
  | _ :: _, [], s, s', hl, _ => by simp at hl
  | a :: r, b :: r', s, s', hl, h => by
    rw [List.cons_append, List.cons_append]
    unfold ltN at h ⊢
    by_cases e : a = b
    · rw [if_pos e] at h ⊢
      exact ltN_app (by simpa using hl) h
    · rw [if_neg e] at h ⊢
      exact h
theorem ltN_same {a b : Nat} (h : a < b) : ∀ r : List Nat, ltN (r ++ [a]) (r ++ [b]) = true
  | [] => by
    show (if a = b then _ else _) = true
    rw [if_neg (by omega)]
    exact decide_eq_true h
  | x :: r => by
    show (if x = x then ltN (r ++ [a]) (r ++ [b]) else _) = true
    rw [if_pos rfl]
    exact ltN_same h r
theorem ltN_asym : ∀ {x y : List Nat}, ltN x y = true → ltN y x = false
  | [], [], h => by cases h
  | [], _ :: _, _ => rfl
  | _ :: _, [], h => by cases h
  | a :: x, b :: y, h => by
    unfold ltN at h ⊢
    by_cases e : a = b
    · rw [if_pos e] at h
      rw [if_pos e.symm]
      exact ltN_asym h
    · rw [if_neg e] at h
      rw [if_neg (fun z => e z.symm)]
      have := of_decide_eq_true h
      exact decide_eq_false (by omega)
theorem ltR_n : ∀ x y : List Nat, ltR (x.map fun z : Nat => (z : Int)) (y.map fun z : Nat => (z : Int)) = ltN x y
  | [], [] => rfl
  | [], _ :: _ => rfl
  | _ :: _, [] => rfl
  | a :: x, b :: y => by
    rw [List.map_cons, List.map_cons]
    unfold ltR ltN
    rw [ltR_n x y]
    by_cases e : a = b
    · rw [if_pos e, if_pos (by omega)]
    · rw [if_neg e, if_neg (by omega)]
      exact decide_eq_decide.mpr (by omega)
theorem shs_up {n : Nat} : ∀ k, (shs n k).Pairwise fun x y => ltN x y = true
  | 0 => by simp [shs]
  | k + 1 => by
    have ih := shs_up (n := n) k
    unfold shs ext
    rw [List.pairwise_flatMap]
    refine ⟨fun r hr => ?_, ?_⟩
    · unfold exr
      rw [List.pairwise_map]
      exact (List.pairwise_lt_range.filter _).imp fun h => ltN_same h r
    · refine (List.pairwise_iff_forall_sublist.mpr fun {a b} hs x hx y hy => ?_)
      have h1 := List.pairwise_iff_forall_sublist.mp ih hs
      have ma : a ∈ shs n k := hs.subset (by simp)
      have mb : b ∈ shs n k := hs.subset (by simp)
      unfold exr at hx hy
      obtain ⟨u, _, rfl⟩ := List.mem_map.mp hx
      obtain ⟨v, _, rfl⟩ := List.mem_map.mp hy
      exact ltN_app (by rw [(shs_row k a ma).1, (shs_row k b mb).1]) h1
theorem unRows_trow : ∀ rs : List (List Nat), unRows (trow rs) = some (rs.map fun r => r.map fun z : Nat => (z : Int))
  | [] => rfl
  | r :: rs => by
    show unRows (.tup (tn r) :: trow rs) = _
    unfold unRows
    rw [unI_tn r, unRows_trow rs]
    rfl
theorem bMinT_of {ds : List D} {x : List Int} {ys : List (List Int)} (h : unRows ds = some (x :: ys)) (ha : ys.all (fun y => !ltR y x) = true) : bMinT [.lst ds] = some (.tup (x.map .int)) := by
  unfold bMinT
  simp only [h, ha]
theorem bMinT_up {r : List Nat} {rs : List (List Nat)} (h : (r :: rs).Pairwise fun x y => ltN x y = true) : bMinT [.lst (trow (r :: rs))] = some (.tup (tn r)) := by
  have h1 := (List.pairwise_cons.mp h).1
  have ha : (rs.map fun r => r.map fun z : Nat => (z : Int)).all (fun y => !ltR y (r.map fun z : Nat => (z : Int))) = true := by
    rw [List.all_eq_true]
    intro y hy
    obtain ⟨z, hz, rfl⟩ := List.mem_map.mp hy
    rw [ltR_n, ltN_asym (h1 z hz)]
    rfl
  rw [bMinT_of (unRows_trow (r :: rs)) ha, List.map_map]
  rfl
/-! what was seen -/
abbrev Sight := Nat × Nat × Nat
def sgt (s : Sight) : D := .tup [.int (s.1 : Nat), .int (s.2.1 : Nat), .int (s.2.2 : Nat)]
def SOk (n : Nat) (s : Sight) : Prop := s.1 ≤ 10 ^ 30 ∧ s.2.1 < n ∧ s.2.2 < n
def fit1 (p : List Nat) (s : Sight) : Bool := decide (it p s.1 s.2.1 = s.2.2)
def fits (ss : List Sight) (p : List Nat) : Bool := ss.all (fit1 p)
theorem andV_tt {a b : DE} {env e : Dn.Env} {r : R} (h1 : a env = .ok (.val (.bl true)) e) (h2 : b e = r) : dAndV a b env = r := by
  unfold dAndV
  rw [h1]
  exact h2
theorem is_sight_ok {n : Nat} {s : Sight} (h : SOk n s) : d_is_sight [.int (n : Nat), sgt s] = .ok (.bl true) .non := by
  obtain ⟨h1, h2, h3⟩ := h
  have i0 : d_is_from [.int (s.1 : Nat), .int 0, .int 1000000000000000000000000000000] = .ok (.bl true) .non := by rw [is_from_i, decide_eq_true (by omega), decide_eq_true (by omega)]; rfl
  have i1 : d_is_from [.int (s.2.1 : Nat), .int 0, .int ((n - 1 : Nat) : Int)] = .ok (.bl true) .non := by rw [is_from_i, decide_eq_true (by omega), decide_eq_true (by omega)]; rfl
  have i2 : d_is_from [.int (s.2.2 : Nat), .int 0, .int ((n - 1 : Nat) : Int)] = .ok (.bl true) .non := by rw [is_from_i, decide_eq_true (by omega), decide_eq_true (by omega)]; rfl
  have g3 : gNe (.int (([.int (s.1 : Nat), .int (s.2.1 : Nat), .int (s.2.2 : Nat)] : List D).length : Nat)) (.int 3) = some (.bl false) := by rw [gNe_i]; rfl
  have sb := gSub_n (a := n) (b := 1) (by omega)
  exact run_val (b := b_is_sight) (env := [some (.int (n : Nat)), some (sgt s)]) rfl (seq_nx (if_false (or_ff (not_tt (test_val (un_val rfl rfl rfl))) (or_ff (test_op (fn1_val rfl rfl rfl) rfl rfl rfl g3) (not_tt (test_val (call_ok (args3 (op_val rfl rfl rfl rfl atI0) rfl rfl) rfl i0))))) rfl)
    (ret_val (andV_tt (call_ok (args3 (op_val rfl rfl rfl rfl atI1) rfl (op_val rfl rfl rfl rfl sb)) rfl i1) (call_ok (args3 (op_val rfl rfl rfl rfl (atI_n (i := 2))) rfl (op_val rfl rfl rfl rfl sb)) rfl i2))))
abbrev csB : DS := (sIf (dNot (dTest (dCall d_is_sight (aCons (dVar 0) (aCons (dVar 3) aNil)))))
    (sRaiseA 8 "index" (dVar 2))
    sNil)
abbrev csG : DG := (gTp 2 (gsCons (gN 2) (gsCons (gN 3) gsNil)))
theorem cs_for {n : Nat} {S : D} : ∀ (ss : List Sight) (k : Nat) (rest : List D) (v2 v3 : Option D), (∀ s ∈ ss, SOk n s) → ∃ v2' v3', forL csG csB (enumD k (ss.map sgt ++ rest)) [some (.int (n : Nat)), some S, v2, v3] = forL csG csB (enumD (k + ss.length) rest) [some (.int (n : Nat)), some S, v2', v3']
  | [], k, rest, v2, v3, _ => ⟨v2, v3, rfl⟩
  | s :: ss, k, rest, v2, v3, h => by
    obtain ⟨v2', v3', ih⟩ := cs_for (n := n) (S := S) ss (k + 1) rest (some (.int (k : Nat))) (some (sgt s)) (fun x hx => h x (List.mem_cons_of_mem _ hx))
    refine ⟨v2', v3', ?_⟩
    rw [List.map_cons, List.cons_append, List.length_cons, show k + (ss.length + 1) = k + 1 + ss.length by omega, ← ih]
    exact forL_nx rfl (if_false (not_tt (test_val (call_ok (args2 rfl rfl) rfl (is_sight_ok (h s (List.mem_cons_self ..)))))) rfl) rfl
theorem check_seen_ok {n : Nat} {S : D} {ss : List Sight} (hS : S = .lst (ss.map sgt) ∨ S = .tup (ss.map sgt)) (h : ∀ s ∈ ss, SOk n s) : d_check_seen [.int (n : Nat), S] = .ok .non .non := by
  obtain ⟨v2, v3, e⟩ := cs_for (n := n) (S := S) ss 0 [] none none h
  rw [List.append_nil] at e
  have e2 : forL csG csB (enumD (0 + ss.length) []) [some (.int (n : Nat)), some S, v2, v3] = .nx [some (.int (n : Nat)), some S, v2, v3] := rfl
  rw [e2] at e
  have hi : iFnV bEnum (aCons (dVar 1) aNil) [some (.int (n : Nat)), some S, none, none] = .ok (enumD 0 (ss.map sgt)) [some (.int (n : Nat)), some S, none, none] := by
    rcases hS with rfl | rfl <;> rfl
  have ht : gIsi2 .list .tuple S = some (.bl true) := by rcases hS with rfl | rfl <;> rfl
  exact run_nx (b := b_check_seen) (env := [some (.int (n : Nat)), some S, none, none]) rfl (seq_nx (if_false (not_tt (test_val (un_val rfl rfl ht))) rfl) (for_nx hi e))
/-- the first bad thing is told -/
theorem check_seen_bad {n : Nat} {ss : List Sight} {b : D} {r : List D} (h : ∀ s ∈ ss, SOk n s) (hb : d_is_sight [.int (n : Nat), b] = .ok (.bl false) .non) : d_check_seen [.int (n : Nat), .lst (ss.map sgt ++ b :: r)] = .ex ⟨8, some ("index", .int (ss.length : Nat))⟩ .non := by
  obtain ⟨v2, v3, e⟩ := cs_for (n := n) (S := .lst (ss.map sgt ++ b :: r)) ss 0 (b :: r) none none h
  rw [Nat.zero_add] at e
  have e2 : forL csG csB (enumD ss.length (b :: r)) [some (.int (n : Nat)), some (.lst (ss.map sgt ++ b :: r)), v2, v3] = .ex ⟨8, some ("index", .int (ss.length : Nat))⟩ [some (.int (n : Nat)), some (.lst (ss.map sgt ++ b :: r)), some (.int (ss.length : Nat)), some b] := by
    unfold enumD forL
    have g1 : csG (.tup [.int (ss.length : Nat), b]) [some (.int (n : Nat)), some (.lst (ss.map sgt ++ b :: r)), v2, v3] = some [some (.int (n : Nat)), some (.lst (ss.map sgt ++ b :: r)), some (.int (ss.length : Nat)), some b] := rfl
    rw [g1]
    dsimp only
    rw [show csB [some (.int (n : Nat)), some (.lst (ss.map sgt ++ b :: r)), some (.int (ss.length : Nat)), some b] = .ex ⟨8, some ("index", .int (ss.length : Nat))⟩ [some (.int (n : Nat)), some (.lst (ss.map sgt ++ b :: r)), some (.int (ss.length : Nat)), some b] from if_true (not_ff (test_val (call_ok (args2 rfl rfl) rfl hb))) rfl]
  rw [e2] at e
  exact run_ex (b := b_check_seen) (env := [some (.int (n : Nat)), some (.lst (ss.map sgt ++ b :: r)), none, none]) rfl (seq_nx (if_false (not_tt (test_val (un_val rfl rfl rfl))) rfl) (for_rt (xs := enumD 0 (ss.map sgt ++ b :: r)) rfl e))
/-! does_fit -/
abbrev dfE : DE := (dOp gEq (dOp gIx (dCall d_done_by (aCons (dVar 0) (aCons (dVar 2) aNil))) (dVar 3)) (dVar 4))
abbrev dfG : DG := (gTp 3 (gsCons (gN 2) (gsCons (gN 3) (gsCons (gN 4) gsNil))))
theorem pw_ix {p : List Nat} {t c : Nat} (hc : c < p.length) : gIx (.tup (tn (pw p t))) (.int (c : Nat)) = some (.int (it p t c : Nat)) := by
  rw [gIx_t, atI_n, tn_get]
  unfold pw
  rw [List.getElem?_map, List.getElem?_range hc]
  rfl
theorem df_list {p : List Nat} {S : D} (sp : Sh p) (hp : p.length ≤ 60) : ∀ (ss : List Sight) (acc : List D) (v2 v3 v4 : Option D), (∀ s ∈ ss, SOk p.length s) → acc.length + ss.length ≤ 1000000 → ∃ v2' v3' v4', compL [2, 3, 4] dfG dYes dfE (ss.map sgt) acc [some (.tup (tn p)), some S, v2, v3, v4] = .ok (acc ++ (ss.map (fit1 p)).map D.bl) [some (.tup (tn p)), some S, v2', v3', v4']
  | [], acc, v2, v3, v4, _, _ => ⟨v2, v3, v4, by simp [compL]⟩
  | s :: ss, acc, v2, v3, v4, h, hl => by
    obtain ⟨h1, h2, h3⟩ := h s (List.mem_cons_self ..)
    rw [List.length_cons] at hl
    obtain ⟨w2, w3, w4, ih⟩ := df_list (S := S) sp hp ss (acc ++ [.bl (fit1 p s)]) (some (.int (s.1 : Nat))) (some (.int (s.2.1 : Nat))) (some (.int (s.2.2 : Nat))) (fun x hx => h x (List.mem_cons_of_mem _ hx)) (by simp; omega)
    refine ⟨w2, w3, w4, ?_⟩
    rw [List.map_cons, List.map_cons, List.map_cons]
    have e1 : dfE [some (.tup (tn p)), some S, some (.int (s.1 : Nat)), some (.int (s.2.1 : Nat)), some (.int (s.2.2 : Nat))] = .ok (.val (.bl (fit1 p s))) [some (.tup (tn p)), some S, some (.int (s.1 : Nat)), some (.int (s.2.1 : Nat)), some (.int (s.2.2 : Nat))] := op_val (op_val (call_ok (args2 rfl rfl) rfl (done_by_ok (t := s.1) sp (by omega))) rfl rfl rfl (pw_ix h2)) rfl rfl rfl gEq_n
    unfold compL
    have g1 : dfG (sgt s) (wipeE [some (.tup (tn p)), some S, v2, v3, v4] [2, 3, 4]) = some [some (.tup (tn p)), some S, some (.int (s.1 : Nat)), some (.int (s.2.1 : Nat)), some (.int (s.2.2 : Nat))] := rfl
    rw [g1]
    dsimp only [dYes]
    rw [e1]
    dsimp only
    rw [decide_eq_true (show acc.length < 1000000 by omega)]
    dsimp only
    rw [ih, List.append_assoc]
    rfl
theorem does_fit_ok {p : List Nat} {S : D} {ss : List Sight} (hS : S = .lst (ss.map sgt) ∨ S = .tup (ss.map sgt)) (sp : Sh p) (hp : p.length ≤ 60) (h : ∀ s ∈ ss, SOk p.length s) (hl : ss.length ≤ 1000) : d_does_fit [.tup (tn p), S] = .ok (.bl (fits ss p)) .non := by
  obtain ⟨v2, v3, v4, e⟩ := df_list (S := S) sp hp ss [] none none none h (by simp; omega)
  rw [List.nil_append] at e
  have hi : iAny (dVar 1) [some (.tup (tn p)), some S, none, none, none] = .ok (ss.map sgt) [some (.tup (tn p)), some S, none, none, none] := by rcases hS with rfl | rfl <;> rfl
  have hc : dComp [2, 3, 4] (iAny (dVar 1)) dfG dYes dfE [some (.tup (tn p)), some S, none, none, none] = .ok (.val (.lst ((ss.map (fit1 p)).map D.bl))) [some (.tup (tn p)), some S, none, none, none] := by
    unfold dComp
    rw [hi]
    dsimp only
    rw [e]
    rfl
  have ha : (ss.map (fit1 p)).all id = fits ss p := by unfold fits; rw [List.all_map]; rfl
  have hb := bAll_ok (bs := ss.map (fit1 p))
  rw [ha] at hb
  exact run_val (b := b_does_fit) (env := [some (.tup (tn p)), some S, none, none, none]) rfl (ret_val (fn1_val hc rfl hb))
/-! fitting -/
def fsome (n : Nat) (ss : List Sight) : List (List Nat) := (shs n n).filter (fits ss)
/-- the places of a card, each once, ascending -/
def srtd (l : List Nat) : List D := (sortI (dedI (l.map fun z : Nat => (z : Int)))).map D.int
def one (l : List D) : D := match l with
  | [x] => x
  | _ => .non
def goes (n : Nat) (fs : List (List Nat)) : List D := (List.range n).map fun c => .lst (srtd (fs.map fun p => ev p c))
def sure (n : Nat) (fs : List (List Nat)) : List D := (List.range n).map fun c => one (srtd (fs.map fun p => ev p c))
def told (n : Nat) (ss : List Sight) : D := match fsome n ss with
  | [] => .tup [.int 0, .non, .non]
  | r :: rs => .tup [.int ((r :: rs).length : Nat), .tup (tn r), .tup (sure n (r :: rs))]
theorem fsome_mem {n : Nat} {ss : List Sight} {p : List Nat} (h : p ∈ fsome n ss) : Sh p ∧ p.length = n := shs_sh (List.mem_filter.mp h).1
theorem shs_cnt : ∀ n, n < 7 → (shs n n).length ≤ 720 := by decide +kernel
theorem fsome_len {n : Nat} {ss : List Sight} (hn : n ≤ 6) : (fsome n ss).length ≤ 720 := Nat.le_trans (List.length_filter_le _ _) (shs_cnt n (by omega))
theorem dedI_len : ∀ l : List Int, (dedI l).length ≤ l.length
  | [] => by simp [dedI]
  | x :: l => by
    have := dedI_len l
    unfold dedI
    split <;> simp <;> omega
theorem tn_ix {p : List Nat} {c : Nat} (hc : c < p.length) : gIx (.tup (tn p)) (.int (c : Nat)) = some (.int (ev p c : Nat)) := by
  rw [gIx_t, atI_n, tn_get, ev_get hc]
  rfl
theorem gSrtS_n {l : List Nat} (h : l.length ≤ 4000) : gSrtS (.lst (tn l)) = some (.lst (srtd l)) := by
  show ((unInts (tn l)).bind fun ns => if ns.length ≤ 4000 ∨ (dedI ns).length ≤ 4000 then some (D.lst ((sortI (dedI ns)).map D.int)) else none) = _
  rw [unI_tn]
  show (if (l.map fun z : Nat => (z : Int)).length ≤ 4000 ∨ (dedI (l.map fun z : Nat => (z : Int))).length ≤ 4000 then some (D.lst ((sortI (dedI (l.map fun z : Nat => (z : Int)))).map D.int)) else none) = _
  rw [if_pos (.inl (by simpa using h))]
  rfl
/-- the places of all cards, by a comprehension over the slots i (cards), j (shuffles), s (the shuffles' list) -/
theorem goes_comp {n i j s : Nat} {env : Dn.Env} {it : DI} {fs : List (List Nat)} (hn : n ≤ 6) (hl : fs.length ≤ 4000) (hf : ∀ p ∈ fs, p.length = n) (hij : i ≠ j) (hsi : s ≠ i) (hsj : s ≠ j) (hi : i < env.length) (hj : j < env.length) (hit : it env = .ok (tn (List.range n)) env) (hs : look env s = some (.lst (trow fs))) :
    dComp [i] it (gN i) dYes (dUn gSrtS (dComp [j] (iAny (dVar s)) (gN j) dYes (dOp gIx (dVar j) (dVar i)))) env = .ok (.val (.lst (goes n fs))) env := by
  have lk : ∀ (e : Dn.Env) (a b : Nat) (x : Option D), a ≠ b → look (e.set a x) b = look e b := fun e a b x h => by unfold look; rw [List.getElem?_set_ne h]
  have lks : ∀ (e : Dn.Env) (a : Nat) (x : D), a < e.length → look (e.set a (some x)) a = some x := fun e a x h => by unfold look; rw [List.getElem?_set_self h]
  have hc := comp_nn (i := i) (it := it) (t := dYes) (e := dUn gSrtS (dComp [j] (iAny (dVar s)) (gN j) dYes (dOp gIx (dVar j) (dVar i)))) (env := env) (List.range n) (fun _ => true) (fun c => .lst (srtd (fs.map fun p => ev p c))) hit hi (by simp; omega) (fun c hc => by
    rw [List.mem_range] at hc
    refine ⟨rfl, fun _ => ?_⟩
    have vs : dVar s (env.set i (some (.int (c : Nat)))) = .ok (.val (.lst (trow fs))) (env.set i (some (.int (c : Nat)))) := by unfold dVar; rw [lk _ _ _ _ (Ne.symm hsi), hs]
    have hin := comp_row (i := j) (it := iAny (dVar s)) (t := dYes) (e := dOp gIx (dVar j) (dVar i)) (env := env.set i (some (.int (c : Nat)))) fs (fun _ => true) (fun p => .int (ev p c : Nat)) (any_lst vs) (by simpa using hj) (by omega) (fun p hp => by
      refine ⟨rfl, fun _ => ?_⟩
      have v1 : dVar j ((env.set i (some (.int (c : Nat)))).set j (some (.tup (tn p)))) = .ok (.val (.tup (tn p))) ((env.set i (some (.int (c : Nat)))).set j (some (.tup (tn p)))) := by unfold dVar; rw [lks _ _ _ (by simpa using hj)]
      have v2 : dVar i ((env.set i (some (.int (c : Nat)))).set j (some (.tup (tn p)))) = .ok (.val (.int (c : Nat))) ((env.set i (some (.int (c : Nat)))).set j (some (.tup (tn p)))) := by unfold dVar; rw [lk _ _ _ _ (Ne.symm hij), lks _ _ _ hi]
      exact op_val v1 v2 rfl rfl (tn_ix (by rw [hf p hp]; exact hc)))
    rw [List.filter_eq_self.mpr (by simp)] at hin
    have e1 : fs.map (fun p => D.int (ev p c : Nat)) = tn (fs.map fun p => ev p c) := by simp [tn]
    rw [e1] at hin
    exact un_val hin rfl (gSrtS_n (by simpa using hl)))
  rw [List.filter_eq_self.mpr (by simp)] at hc
  exact hc
/-- .. which of them are sure -/
theorem sure_comp {n i : Nat} {env : Dn.Env} {it : DI} {fs : List (List Nat)} (hn : n ≤ 6) (hl : fs.length ≤ 4000) (hi : i < env.length) (hit : it env = .ok (goes n fs) env) :
    dComp [i] it (gN i) dYes (dIf (dTest (dOp gEq (dFn bLen (aCons (dVar i) aNil)) (dC (.int 1)))) (dOp gIx (dVar i) (dC (.int 0))) (dC .non)) env = .ok (.val (.lst (sure n fs))) env := by
  have hc := comp_pure (i := i) (it := it) (t := dYes) (e := dIf (dTest (dOp gEq (dFn bLen (aCons (dVar i) aNil)) (dC (.int 1)))) (dOp gIx (dVar i) (dC (.int 0))) (dC .non)) (env := env) (goes n fs) (fun _ => true) (fun d => match d with | .lst l => one l | _ => .non) hit hi (by simp [goes]; omega) (fun d hd => by
    unfold goes at hd
    obtain ⟨c, _, rfl⟩ := List.mem_map.mp hd
    refine ⟨rfl, fun _ => ?_⟩
    generalize srtd (fs.map fun p => ev p c) = l
    have v1 : dVar i (env.set i (some (.lst l))) = .ok (.val (.lst l)) (env.set i (some (.lst l))) := by unfold dVar look; rw [List.getElem?_set_self hi]
    have t1 : dTest (dOp gEq (dFn bLen (aCons (dVar i) aNil)) (dC (.int 1))) (env.set i (some (.lst l))) = .ok (decide (l.length = 1)) (env.set i (some (.lst l))) := test_op (fn1_val v1 rfl rfl) rfl rfl rfl (gEq_n (a := l.length) (b := 1))
    match l, v1, t1 with
    | [], v1, t1 => exact dif_false t1 rfl
    | [x], v1, t1 => exact dif_true t1 (op_val v1 rfl rfl rfl atI0)
    | x :: y :: r, v1, t1 =>
      rw [decide_eq_false (by simp)] at t1
      exact dif_false t1 rfl)
  rw [List.filter_eq_self.mpr (by simp)] at hc
  have e : (goes n fs).map (fun d => match d with | .lst l => one l | _ => .non) = sure n fs := by unfold goes sure; rw [List.map_map]; rfl
  rw [e] at hc
  exact hc
theorem fitting_ok {n : Nat} {S : D} {ss : List Sight} (hS : S = .lst (ss.map sgt) ∨ S = .tup (ss.map sgt)) (hn : n ≤ 6) (h : ∀ s ∈ ss, SOk n s) (hl : ss.length ≤ 1000) : d_fitting [.int (n : Nat), S] = .ok (told n ss) .non := by
  have hc : d_check_cards [.int (n : Nat), .int 0, .int 6] = .ok .non .non := check_cards_ok (n := n) (a := 0) (b := 6) (by omega) hn
  have hcs := check_seen_ok hS h
  have hfl := fsome_len (n := n) (ss := ss) hn
  have hsome := comp_row (i := 4) (it := iAny (dCall d_all_shuffles (aCons (dVar 0) aNil))) (t := dTest (dCall d_does_fit (aCons (dVar 4) (aCons (dVar 1) aNil)))) (e := dVar 4) (env := [some (.int (n : Nat)), some S, none, none, none, none, none]) (shs n n) (fits ss) (fun p => .tup (tn p)) (any_lst (call_ok (args1 rfl) rfl (all_shuffles_ok hn))) (by simp) (by have := shs_few (n := n) (k := n) hn hn; omega) (fun p hp => by
    obtain ⟨sp, hpl⟩ := shs_sh hp
    exact ⟨test_val (call_ok (args2 rfl rfl) rfl (does_fit_ok hS sp (by omega) (by rw [hpl]; exact h) hl)), fun _ => rfl⟩)
  have e1 : ((shs n n).filter (fits ss)).map (fun p => D.tup (tn p)) = trow (fsome n ss) := rfl
  rw [e1] at hsome
  have t1 : dTest (dOp gEq (dFn bLen (aCons (dVar 2) aNil)) (dC (.int 0))) [some (.int (n : Nat)), some S, some (.lst (trow (fsome n ss))), none, none, none, none] = .ok (decide ((trow (fsome n ss)).length = 0)) [some (.int (n : Nat)), some S, some (.lst (trow (fsome n ss))), none, none, none, none] := test_op (fn1_val rfl rfl rfl) rfl rfl rfl (gEq_n (a := (trow (fsome n ss)).length) (b := 0))
  cases hf : fsome n ss with
  | nil =>
    rw [hf] at t1 hsome
    have ht : told n ss = .tup [.int 0, .non, .non] := by unfold told; rw [hf]
    rw [ht]
    exact run_val (b := b_fitting) (env := [some (.int (n : Nat)), some S, none, none, none, none, none]) rfl (seq_nx (expr_nx (call_ok (args3 rfl rfl rfl) rfl hc)) (seq_nx (expr_nx (call_ok (args2 rfl rfl) rfl hcs)) (seq_nx (set_val hsome) (seq_rt (if_true t1 (ret_val rfl))))))
  | cons r rs =>
    rw [hf] at t1 hsome hfl
    rw [decide_eq_false (by simp [trow])] at t1
    have ht : told n ss = .tup [.int ((r :: rs).length : Nat), .tup (tn r), .tup (sure n (r :: rs))] := by unfold told; rw [hf]
    rw [ht]
    have hlen : ∀ p ∈ r :: rs, p.length = n := fun p hp => (fsome_mem (n := n) (ss := ss) (by rw [hf]; exact hp)).2
    have g1 := goes_comp (n := n) (i := 5) (j := 4) (s := 2) (env := [some (.int (n : Nat)), some S, some (.lst (trow (r :: rs))), none, none, none, none]) (it := iFn range1 (aCons (dVar 0) aNil)) (fs := r :: rs) hn (by omega) hlen (by decide) (by decide) (by decide) (by simp) (by simp) (fn_range1 (x := n) rfl (by omega)) rfl
    have g2 := sure_comp (n := n) (i := 6) (env := [some (.int (n : Nat)), some S, some (.lst (trow (r :: rs))), some (.lst (goes n (r :: rs))), none, none, none]) (it := iAny (dVar 3)) (fs := r :: rs) hn (by omega) (by simp) (any_lst rfl)
    have l1 : bLen [.lst (trow (r :: rs))] = some (.int ((r :: rs).length : Nat)) := by rw [bLen_l]; simp [trow]
    exact run_val (b := b_fitting) (env := [some (.int (n : Nat)), some S, none, none, none, none, none]) rfl (seq_nx (expr_nx (call_ok (args3 rfl rfl rfl) rfl hc)) (seq_nx (expr_nx (call_ok (args2 rfl rfl) rfl hcs)) (seq_nx (set_val hsome) (seq_nx (if_false t1 rfl) (seq_nx (set_val g1) (ret_val (disp_l (g := D.tup) (acons (fn1_val rfl rfl l1) (acons (op_val rfl rfl rfl rfl atI0) (acons (fn1_val g2 rfl bTuple_l) anil))) rfl (by simp))))))))
end Pu

/-! equality of plain data -/
namespace Pu
open PySem Dn Lr L2 Ci Np
theorem pl_pys {n : Nat} : ∀ xs : List D, (∀ x ∈ xs, ∃ a, toPy x = some a ∧ PyData.canLay0 a = true ∧ PyData.depth a ≤ n) → ∃ as, toPys xs = some as ∧ PyData.canLayAll0 as = true ∧ PyData.depthAll as ≤ n
  | [], _ => ⟨[], rfl, by simp [PyData.canLayAll0], by simp [PyData.depthAll]⟩
  | x :: xs, h => by
    obtain ⟨a, h1, h2, h3⟩ := h x (List.mem_cons_self ..)
    obtain ⟨as, g1, g2, g3⟩ := pl_pys xs fun y hy => h y (List.mem_cons_of_mem _ hy)
    refine ⟨a :: as, ?_, ?_, ?_⟩
    · rw [toPys, h1, g1]
    · rw [PyData.canLayAll0, h2, g2]; rfl
    · rw [PyData.depthAll]; omega
theorem pl_py : ∀ {n : Nat} {x : D}, Pl n x → ∃ a, toPy x = some a ∧ PyData.canLay0 a = true ∧ PyData.depth a ≤ n
  | _, _, .non => ⟨.none, rfl, by simp [PyData.canLay0], by simp [PyData.depth]⟩
  | _, _, .bl b => ⟨.bool b, rfl, by simp [PyData.canLay0], by simp [PyData.depth]⟩
  | _, _, .int i => ⟨.int i, rfl, by simp [PyData.canLay0], by simp [PyData.depth]⟩
  | _, _, .str x h => ⟨.str x, rfl, h, by simp [PyData.depth]⟩
  | _, _, .tup (n := n) (xs := xs) _ h => by
    obtain ⟨as, g1, g2, g3⟩ := pl_pys xs fun y hy => pl_py (h y hy)
    exact ⟨.tuple as, by rw [toPy, g1]; rfl, by rw [PyData.canLay0]; exact g2, by rw [PyData.depth]; omega⟩
  | _, _, .lst (n := n) (xs := xs) _ h => by
    obtain ⟨as, g1, g2, g3⟩ := pl_pys xs fun y hy => pl_py (h y hy)
    exact ⟨.list as, by rw [toPy, g1]; rfl, by rw [PyData.canLay0]; exact g2, by rw [PyData.depth]; omega⟩
theorem shp_of {a : PyData} {n : Nat} (h : PyData.canLay0 a = true) (h2 : PyData.depth a ≤ n) (hn : n ≤ 64) : SeqAt.shaped a = true := by
  unfold SeqAt.shaped
  rw [h, decide_eq_true (by omega)]
  rfl
theorem eqB_refl {n : Nat} {x : D} (h : Pl n x) (hn : n ≤ 64) : gEqB x x = some true := by
  obtain ⟨a, h1, h2, h3⟩ := pl_py h
  unfold gEqB
  rw [h1]
  dsimp only
  rw [shp_of h2 h3 hn, SeqAt.eqv_refl a h2]
  rfl
theorem eqB_nil {n : Nat} {xs : List D} (h : Pl n (.lst xs)) (hn : n ≤ 64) : gEqB (.lst xs) (.lst []) = some (decide (xs = [])) := by
  cases xs with
  | nil => rw [eqB_refl h hn, decide_eq_true rfl]
  | cons x xs =>
    obtain ⟨a, h1, h2, h3⟩ := pl_py h
    have h0 : ∃ b bs, a = .list (b :: bs) := by
      rw [toPy, toPys] at h1
      split at h1
      · exact ⟨_, _, (Option.some.inj h1).symm⟩
      · cases h1
    obtain ⟨b, bs, rfl⟩ := h0
    have e : toPy (.lst []) = some (.list []) := rfl
    unfold gEqB
    rw [h1, e]
    dsimp only
    rw [shp_of h2 h3 hn, decide_eq_false (fun z => by cases z)]
    rfl
theorem gEq_refl {n : Nat} {x : D} (h : Pl n x) (hn : n ≤ 64) : gEq x x = some (.bl true) := by unfold gEq; rw [eqB_refl h hn]; rfl
theorem gNe_refl {n : Nat} {x : D} (h : Pl n x) (hn : n ≤ 64) : gNe x x = some (.bl false) := by unfold gNe; rw [eqB_refl h hn]; rfl
theorem gEq_nil {n : Nat} {xs : List D} (h : Pl n (.lst xs)) (hn : n ≤ 64) : gEq (.lst xs) (.lst []) = some (.bl (decide (xs = []))) := by unfold gEq; rw [eqB_nil h hn]; rfl
theorem gNe_nil {n : Nat} {xs : List D} (h : Pl n (.lst xs)) (hn : n ≤ 64) : gNe (.lst xs) (.lst []) = some (.bl (!decide (xs = []))) := by unfold gNe; rw [eqB_nil h hn]; rfl
theorem shufG {env : Dn.Env} {i n : Nat} {y : List D} {a : DE} (h0 : look env i = some (.lst y)) (ha : a env = .ok (.val (.int (n : Nat))) env) (h : Src (.lst y)) (hn : n ≤ 1000) :
    ∃ (q : List Nat) (y' : List D), Src (.lst y') ∧ Sh q ∧ q.length = n ∧ dCallIO d_l_shuffle (aCons (dOwn i) (aCons a aNil)) env = .ok (.val (.tup (tn q))) (env.set i (some (.lst y'))) := by
  obtain ⟨q, d', h1, h2, h3, e⟩ := shuffle_ok (n := n) h hn
  obtain ⟨y', rfl⟩ := src_lst h3
  exact ⟨q, y', h3, h1, h2, callIO_ok (ds := [.int (n : Nat)]) (args2 (own_slot h0) ha) h0 rfl e⟩
theorem mem_get {α : Type} {xs : List α} {i : Nat} {x : α} (h : xs[i]? = some x) : x ∈ xs := List.mem_of_getElem? h
end Pu

namespace Lr
open PySem PySem.Spec PyProof.Rows L2 Dn
def b_Deck_len : DS := (sRet (dFn bLen (aCons (dFld 0 12 "past") aNil)))
def d_Deck_len : DF := runF 1 true b_Deck_len
def b_Deck_place_of : DS := (sSeq (sIf (dNot (dTest (dCall d_is_from (aCons (dVar 1) (aCons (dC (.int 0)) (aCons (dOp gSubt (dFn bLen (aCons (dFld 0 12 "now") aNil)) (dC (.int 1))) aNil))))))
    (fun env => RS.ex ⟨9, none⟩ env)
    sNil)
    (sRet (dOp gIx (dFld 0 12 "now") (dVar 1))))
def d_Deck_place_of : DF := runF 2 true b_Deck_place_of
def b_Deck_become : DS := (sSeq (sFldSet 0 12 "past" (dDisp .tup (aStar (dFld 0 12 "past") (aCons (dFld 0 12 "now") aNil))))
    (sSeq (sFldSet 0 12 "future" (dDisp .tup aNil))
    (sFldSet 0 12 "now" (dVar 1))))
def d_Deck_become : DF := runF 2 true b_Deck_become
def b_Deck_mix : DS := (sSeq (sExpr (dCall d_check_shuffle (aCons (dVar 1) aNil)))
    (sSeq (sIf (dTest (dOp gNe (dFn bLen (aCons (dVar 1) aNil)) (dFn bLen (aCons (dFld 0 12 "now") aNil))))
    (fun env => RS.ex ⟨1, none⟩ env)
    sNil)
    (sSeq (sExpr (dMethO d_Deck_become 0 12 "become" (aCons (dCall d_both_by (aCons (dFld 0 12 "now") (aCons (dVar 1) aNil))) aNil)))
    (sRet (dCall d_round_by (aCons (dFld 0 12 "now") aNil))))))
def d_Deck_mix : DF := runF 2 true b_Deck_mix
def b_Deck_swap : DS := (sSeq (sSet 3 (dOp gSubt (dFn bLen (aCons (dFld 0 12 "now") aNil)) (dC (.int 1))))
    (sSeq (sIf (dOr (dNot (dTest (dCall d_is_from (aCons (dVar 1) (aCons (dC (.int 0)) (aCons (dVar 3) aNil)))))) (dOr (dNot (dTest (dCall d_is_from (aCons (dVar 2) (aCons (dC (.int 0)) (aCons (dVar 3) aNil)))))) (dTest (dOp gEq (dVar 1) (dVar 2)))))
    (fun env => RS.ex ⟨9, none⟩ env)
    sNil)
    (sSeq (sExpr (dMethO d_Deck_become 0 12 "become" (aCons (dFn bTuple (aCons (dComp [4] (iAny (dFld 0 12 "now")) (gN 4) dYes (dIf (dTest (dOp gEq (dVar 4) (dVar 1))) (dVar 2) (dIf (dTest (dOp gEq (dVar 4) (dVar 2))) (dVar 1) (dVar 4)))) aNil)) aNil)))
    (sRet (dCall d_round_by (aCons (dFld 0 12 "now") aNil))))))
def d_Deck_swap : DF := runF 5 true b_Deck_swap
def b_Deck_again : DS := (sSeq (sIf (dNot (dTest (dCall d_is_from (aCons (dVar 1) (aCons (dC (.int 0)) (aCons (dC (.int 1000000000000000000000000000000)) aNil))))))
    (fun env => RS.ex ⟨2, none⟩ env)
    sNil)
    (sExpr (dMethO d_Deck_become 0 12 "become" (aCons (dCall d_done_by (aCons (dFld 0 12 "now") (aCons (dVar 1) aNil))) aNil))))
def d_Deck_again : DF := runF 2 true b_Deck_again
def b_Deck_init : DS := (sSeq (sExpr (dCall d_check_cards (aCons (dVar 1) (aCons (dC (.int 0)) (aCons (dC (.int 60)) aNil)))))
    (sSeq (sFldSet 0 12 "now" (dFn bTuple (aCons (dUn bListR (dVar 1)) aNil)))
    (sSeq (sFldSet 0 12 "past" (dDisp .tup aNil))
    (sFldSet 0 12 "future" (dDisp .tup aNil)))))
def d_Deck_init : DF := runF 2 true b_Deck_init
def b_Deck_undo : DS := (sSeq (sIf (dTest (dOp gEq (dFn bLen (aCons (dFld 0 12 "past") aNil)) (dC (.int 0))))
    (sRet (dC (.bl false)))
    sNil)
    (sSeq (sFldSet 0 12 "future" (dDisp .tup (aStar (dFld 0 12 "future") (aCons (dFld 0 12 "now") aNil))))
    (sSeq (sFldSet 0 12 "now" (dOp gIx (dFld 0 12 "past") (dUn gNeg (dC (.int 1)))))
    (sSeq (sFldSet 0 12 "past" (dSl gSlV (dFld 0 12 "past") pNone (pSome (dUn gNeg (dC (.int 1))))))
    (sRet (dC (.bl true)))))))
def d_Deck_undo : DF := runF 1 true b_Deck_undo
def b_Deck_redo : DS := (sSeq (sIf (dTest (dOp gEq (dFn bLen (aCons (dFld 0 12 "future") aNil)) (dC (.int 0))))
    (sRet (dC (.bl false)))
    sNil)
    (sSeq (sFldSet 0 12 "past" (dDisp .tup (aStar (dFld 0 12 "past") (aCons (dFld 0 12 "now") aNil))))
    (sSeq (sFldSet 0 12 "now" (dOp gIx (dFld 0 12 "future") (dUn gNeg (dC (.int 1)))))
    (sSeq (sFldSet 0 12 "future" (dSl gSlV (dFld 0 12 "future") pNone (pSome (dUn gNeg (dC (.int 1))))))
    (sRet (dC (.bl true)))))))
def d_Deck_redo : DF := runF 1 true b_Deck_redo
end Lr

/-! Deck -/
namespace Pu
open PySem Dn Lr L2 Ci Np
/-! shuffles of shuffles -/
theorem sh_map {p : List Nat} {f : Nat → Nat} (s : Sh p) (hl : ∀ x, x < p.length → f x < p.length) (hi : ∀ x y, x < p.length → y < p.length → f x = f y → x = y) : Sh (p.map f) :=
  ⟨nodup_map_on s.nd fun x hx y hy e => hi x y (s.lt x hx) (s.lt y hy) e, fun x hx => by
    obtain ⟨y, hy, rfl⟩ := List.mem_map.mp hx
    rw [List.length_map]
    exact hl y (s.lt y hy)⟩
theorem sh_both {p q : List Nat} (sp : Sh p) (sq : Sh q) (h : p.length = q.length) : Sh (p.map (ev q)) :=
  sh_map sp (fun x hx => by rw [h] at hx ⊢; exact ev_lt sq hx) fun x y hx hy e => ev_inj sq (by omega) (by omega) e
theorem sh_range (n : Nat) : Sh (List.range n) := ⟨List.nodup_range, fun x hx => by simpa using List.mem_range.mp hx⟩
theorem sh_pw {p : List Nat} {t : Nat} (s : Sh p) : Sh (pw p t) := by
  have h := sh_map (p := List.range p.length) (f := fun x => it p t x) (sh_range _) (fun x hx => by rw [List.length_range] at hx ⊢; exact it_lt s hx t) fun x y hx hy e => by
    rw [List.length_range] at hx hy
    exact it_inj s hx hy e
  exact h
theorem pw_len {p : List Nat} {t : Nat} : (pw p t).length = p.length := by simp [pw]
def sw (a b x : Nat) : Nat := if x = a then b else if x = b then a else x
theorem sh_sw {p : List Nat} {a b : Nat} (s : Sh p) (ha : a < p.length) (hb : b < p.length) : Sh (p.map (sw a b)) :=
  sh_map s (fun x hx => by unfold sw; split <;> (try split) <;> assumption) fun x y hx hy e => by
    unfold sw at e
    split at e <;> split at e <;> (try split at e) <;> (try split at e) <;> omega
/-! runs of a method -/
theorem run_valI {n : Nat} {b : DS} {ds : List D} {env e : Dn.Env} {d : D} (he : ds.map some ++ List.replicate (n - ds.length) none = env) (h : b env = .rt (.val d) e) : runF n true b ds = .ok d ((look e 0).getD .non) := by
  unfold runF
  rw [he, h]
  rfl
theorem run_nxI {n : Nat} {b : DS} {ds : List D} {env e : Dn.Env} (he : ds.map some ++ List.replicate (n - ds.length) none = env) (h : b env = .nx e) : runF n true b ds = .ok .non ((look e 0).getD .non) := by
  unfold runF
  rw [he, h]
  rfl
theorem fld_ok {i n : Nat} {f : Str} {env : Dn.Env} {fs : List (Str × D)} {d : D} (h : look env i = some (.obj n fs)) (h2 : fs.lookup f = some d) : dFld i n f env = .ok (.val d) env := by
  unfold dFld
  rw [h]
  dsimp only
  rw [decide_eq_true (rfl : n = n)]
  dsimp only
  rw [h2]
theorem fldSet_nx {i n : Nat} {f : Str} {a : DE} {env e : Dn.Env} {fs : List (Str × D)} {d : D} (h1 : a env = .ok (.val d) e) (h2 : look e i = some (.obj n fs)) (h3 : fs.length < 1000) : sFldSet i n f a env = .nx (e.set i (some (.obj n (putFD f d fs)))) := by
  unfold sFldSet
  rw [h1]
  dsimp only
  rw [h2]
  dsimp only
  rw [decide_eq_true (rfl : n = n), decide_eq_true h3]
  rfl
theorem methO_ok {df : DF} {i n n' : Nat} {m : Str} {a : DA} {env e : Dn.Env} {fs fs' : List (Str × D)} {rs : List Rv} {ds : List D} {d o : D} (h0 : look env i = some (.obj n fs)) (hm : fs.lookup m = none) (ha : a env = .ok rs e) (hc : clean rs = some ds) (hl : look e i = some (.obj n' fs')) (h : df (.obj n' fs' :: ds) = .ok d o) :
    dMethO df i n m a env = .ok (.val d) (e.set i (some o)) := by
  have ho : Dn.isObj env i n m = true := by
    unfold Dn.isObj
    rw [h0]
    dsimp only
    rw [decide_eq_true (rfl : n = n), hm]
    rfl
  have hs : dOwn i env = .ok (.slot i) env := by unfold dOwn; rw [h0]
  unfold dMethO
  rw [ho]
  dsimp only
  unfold dCallIO
  rw [acons hs ha]
  dsimp only
  rw [hc, hl]
  dsimp only
  rw [h]
/-- a deck -/
def fl (a b c : D) : List (Str × D) := [("now", a), ("past", b), ("future", c)]
theorem lk_now {a b c : D} : (fl a b c).lookup ("now" : Str) = some a := by kernel_rfl
theorem lk_past {a b c : D} : (fl a b c).lookup ("past" : Str) = some b := by kernel_rfl
theorem lk_fut {a b c : D} : (fl a b c).lookup ("future" : Str) = some c := by kernel_rfl
theorem lk_become {a b c : D} : (fl a b c).lookup ("become" : Str) = none := by kernel_rfl
theorem pt_now {a b c d : D} : putFD "now" d (fl a b c) = fl d b c := by kernel_rfl
theorem pt_past {a b c d : D} : putFD "past" d (fl a b c) = fl a d c := by kernel_rfl
theorem pt_fut {a b c d : D} : putFD "future" d (fl a b c) = fl a b d := by kernel_rfl
theorem fl_len {a b c : D} : (fl a b c).length < 1000 := by show 3 < 1000; omega
def dk (p : List Nat) (ps fs : List (List Nat)) : D := .obj 12 (fl (.tup (tn p)) (.tup (trow ps)) (.tup (trow fs)))
theorem clean_vals : ∀ (xs ys : List D), clean (xs.map Rv.val ++ ys.map Rv.val) = some (xs ++ ys)
  | [], [] => rfl
  | [], y :: ys => by
    have := clean_vals [] ys
    rw [List.map_nil, List.nil_append, List.nil_append] at this ⊢
    rw [List.map_cons]
    unfold clean
    rw [this]
    rfl
  | x :: xs, ys => by
    rw [List.map_cons, List.cons_append]
    unfold clean
    rw [clean_vals xs ys]
    rfl
theorem star_tup {a : DE} {r : DA} {env e1 e2 : Dn.Env} {x : Rv} {xs : List D} {ys : List Rv} (h1 : a env = .ok x e1) (h2 : rd e1 x = some (.tup xs)) (h3 : r e1 = .ok ys e2) : aStar a r env = .ok (xs.map Rv.val ++ ys) e2 := by
  unfold aStar
  rw [h1]
  dsimp only
  rw [h2]
  dsimp only
  rw [h3]
theorem trow_snoc {ps : List (List Nat)} {p : List Nat} : trow ps ++ [D.tup (tn p)] = trow (ps ++ [p]) := by simp [trow]
/-- (*past, now) -/
theorem snoc_ok {i : Nat} {f g : Str} {env : Dn.Env} {fs : List (Str × D)} {ps : List (List Nat)} {p : List Nat} (h : look env i = some (.obj 12 fs)) (hf : fs.lookup f = some (.tup (trow ps))) (hg : fs.lookup g = some (.tup (tn p))) (hl : ps.length < 100000) :
    dDisp .tup (aStar (dFld i 12 f) (aCons (dFld i 12 g) aNil)) env = .ok (.val (.tup (trow (ps ++ [p])))) env := by
  rw [← trow_snoc]
  exact disp_l (g := .tup) (star_tup (fld_ok h hf) rfl (args1 (fld_ok h hg))) (clean_vals (trow ps) [.tup (tn p)]) (by simp [trow]; omega)
theorem become_ok {p q : List Nat} {ps fs : List (List Nat)} (hl : ps.length < 100000) : d_Deck_become [dk p ps fs, .tup (tn q)] = .ok .non (dk q (ps ++ [p]) []) := by
  have s1 := snoc_ok (i := 0) (f := "past") (g := "now") (env := [some (dk p ps fs), some (.tup (tn q))]) rfl lk_past lk_now hl
  have a1 := fldSet_nx (f := "past") s1 (i := 0) (n := 12) rfl fl_len
  rw [pt_past] at a1
  have a2 : sFldSet 0 12 "future" (dDisp .tup aNil) [some (.obj 12 (fl (.tup (tn p)) (.tup (trow (ps ++ [p]))) (.tup (trow fs)))), some (.tup (tn q))] = _ := fldSet_nx (f := "future") (d := .tup []) rfl rfl fl_len
  rw [pt_fut] at a2
  have a3 : sFldSet 0 12 "now" (dVar 1) [some (.obj 12 (fl (.tup (tn p)) (.tup (trow (ps ++ [p]))) (.tup []))), some (.tup (tn q))] = _ := fldSet_nx (f := "now") (d := .tup (tn q)) rfl rfl fl_len
  rw [pt_now] at a3
  exact run_nxI (b := b_Deck_become) (env := [some (dk p ps fs), some (.tup (tn q))]) rfl (seq_nx a1 (seq_nx a2 a3))
theorem init_ok {n : Nat} (h : n ≤ 60) : d_Deck_init [.obj 12 [], .int (n : Nat)] = .ok .non (dk (List.range n) [] []) := by
  have hc : d_check_cards [.int (n : Nat), .int 0, .int 60] = .ok .non .non := check_cards_ok (n := n) (a := 0) (b := 60) (by omega) h
  have a1 : sFldSet 0 12 "now" (dFn bTuple (aCons (dUn bListR (dVar 1)) aNil)) [some (.obj 12 []), some (.int (n : Nat))] = _ := fldSet_nx (f := "now") (d := .tup (tn (List.range n))) (fn1_val (un_val rfl rfl (bListR_ok (by omega))) rfl bTuple_l) rfl (by show 0 < 1000; omega)
  have a2 : sFldSet 0 12 "past" (dDisp .tup aNil) [some (.obj 12 [(("now" : Str), D.tup (tn (List.range n)))]), some (.int (n : Nat))] = _ := fldSet_nx (f := "past") (d := .tup []) rfl rfl (by show 1 < 1000; omega)
  have a3 : sFldSet 0 12 "future" (dDisp .tup aNil) [some (.obj 12 [(("now" : Str), D.tup (tn (List.range n))), (("past" : Str), D.tup [])]), some (.int (n : Nat))] = _ := fldSet_nx (f := "future") (d := .tup []) rfl rfl (by show 2 < 1000; omega)
  have e1 : putFD "now" (.tup (tn (List.range n))) [] = [(("now" : Str), D.tup (tn (List.range n)))] := rfl
  have e2 : putFD "past" (.tup []) [(("now" : Str), D.tup (tn (List.range n)))] = [(("now" : Str), D.tup (tn (List.range n))), (("past" : Str), D.tup [])] := by kernel_rfl
  have e3 : putFD "future" (.tup []) [(("now" : Str), D.tup (tn (List.range n))), (("past" : Str), D.tup [])] = fl (.tup (tn (List.range n))) (.tup []) (.tup []) := by kernel_rfl
  rw [e1] at a1
  rw [e2] at a2
  rw [e3] at a3
  exact run_nxI (b := b_Deck_init) (env := [some (.obj 12 []), some (.int (n : Nat))]) rfl (seq_nx (expr_nx (call_ok (args3 rfl rfl rfl) rfl hc)) (seq_nx a1 (seq_nx a2 a3)))
theorem mix_ok {p q : List Nat} {ps fs : List (List Nat)} (sp : Sh p) (sq : Sh q) (hp : p.length ≤ 60) (hpq : p.length = q.length) (hl : ps.length < 100000) :
    d_Deck_mix [dk p ps fs, .tup (tn q)] = .ok (.int (lcmL (lens (circ (p.map (ev q)))) : Nat)) (dk (p.map (ev q)) (ps ++ [p]) []) := by
  have h3 := both_by_ok (p := p) (q := q) (by omega) (fun x hx => by have := sp.lt x hx; omega)
  have h4 : gNe (.int ((tn q).length : Nat)) (.int ((tn p).length : Nat)) = some (.bl false) := by rw [gNe_i, decide_eq_false (by simp; omega)]
  have h5 := round_by_ok (sh_both sp sq hpq) (by simp; omega)
  have hb := methO_ok (df := d_Deck_become) (i := 0) (n := 12) (m := "become") (a := aCons (dCall d_both_by (aCons (dFld 0 12 "now") (aCons (dVar 1) aNil))) aNil) (env := [some (dk p ps fs), some (.tup (tn q))]) rfl lk_become (args1 (call_ok (args2 (fld_ok rfl lk_now) rfl) rfl h3)) rfl rfl (become_ok (fs := fs) hl)
  exact run_valI (b := b_Deck_mix) (env := [some (dk p ps fs), some (.tup (tn q))]) (e := [some (dk (p.map (ev q)) (ps ++ [p]) []), some (.tup (tn q))]) rfl
    (seq_nx (expr_nx (call_ok (args1 rfl) rfl (check_ok sq (by omega)))) (seq_nx (if_false (test_op (fn1_val rfl rfl rfl) (fn1_val (fld_ok rfl lk_now) rfl rfl) rfl rfl h4) rfl)
    (seq_nx (expr_nx hb) (ret_val (call_ok (args1 (fld_ok rfl lk_now)) rfl h5)))))
theorem again_ok {p : List Nat} {t : Nat} {ps fs : List (List Nat)} (sp : Sh p) (hp : p.length ≤ 60) (ht : t ≤ 10 ^ 30) (hl : ps.length < 100000) :
    d_Deck_again [dk p ps fs, .int (t : Nat)] = .ok .non (dk (pw p t) (ps ++ [p]) []) := by
  have h0 : d_is_from [.int (t : Nat), .int 0, .int 1000000000000000000000000000000] = .ok (.bl true) .non := by rw [is_from_i, decide_eq_true (by omega), decide_eq_true (by omega)]; rfl
  have h3 := done_by_ok (t := t) sp (by omega)
  have hb := methO_ok (df := d_Deck_become) (i := 0) (n := 12) (m := "become") (a := aCons (dCall d_done_by (aCons (dFld 0 12 "now") (aCons (dVar 1) aNil))) aNil) (env := [some (dk p ps fs), some (.int (t : Nat))]) rfl lk_become (args1 (call_ok (args2 (fld_ok rfl lk_now) rfl) rfl h3)) rfl rfl (become_ok (fs := fs) hl)
  exact run_nxI (b := b_Deck_again) (env := [some (dk p ps fs), some (.int (t : Nat))]) (e := [some (dk (pw p t) (ps ++ [p]) []), some (.int (t : Nat))]) rfl
    (seq_nx (if_false (not_tt (test_val (call_ok (args3 rfl rfl rfl) rfl h0))) rfl) (expr_nx hb))
theorem sw_comp {p : List Nat} {a b : Nat} {env : Dn.Env} {it : DI} (hit : it env = .ok (tn p) env) (hl : p.length ≤ 1000) (hi : 4 < env.length) (h1 : ∀ x, look (env.set 4 (some x)) 1 = some (.int (a : Nat))) (h2 : ∀ x, look (env.set 4 (some x)) 2 = some (.int (b : Nat))) (h4 : ∀ x, look (env.set 4 (some x)) 4 = some x) :
    dComp [4] it (gN 4) dYes (dIf (dTest (dOp gEq (dVar 4) (dVar 1))) (dVar 2) (dIf (dTest (dOp gEq (dVar 4) (dVar 2))) (dVar 1) (dVar 4))) env = .ok (.val (.lst (tn (p.map (sw a b))))) env := by
  refine comp_tn (i := 4) (it := it) (e := dIf (dTest (dOp gEq (dVar 4) (dVar 1))) (dVar 2) (dIf (dTest (dOp gEq (dVar 4) (dVar 2))) (dVar 1) (dVar 4))) (env := env) p (sw a b) hit hi (by omega) (fun x hx => ?_)
  have v4 : dVar 4 (env.set 4 (some (.int (x : Nat)))) = .ok (.val (.int (x : Nat))) (env.set 4 (some (.int (x : Nat)))) := by unfold dVar; rw [h4]
  have v1 : dVar 1 (env.set 4 (some (.int (x : Nat)))) = .ok (.val (.int (a : Nat))) (env.set 4 (some (.int (x : Nat)))) := by unfold dVar; rw [h1]
  have v2 : dVar 2 (env.set 4 (some (.int (x : Nat)))) = .ok (.val (.int (b : Nat))) (env.set 4 (some (.int (x : Nat)))) := by unfold dVar; rw [h2]
  have t1 := test_op (g := gEq) v4 v1 rfl rfl (gEq_n (a := x) (b := a))
  have t2 := test_op (g := gEq) v4 v2 rfl rfl (gEq_n (a := x) (b := b))
  unfold sw
  by_cases e1 : x = a
  · rw [decide_eq_true e1] at t1
    rw [if_pos e1]
    exact dif_true t1 v2
  · rw [decide_eq_false e1] at t1
    rw [if_neg e1]
    refine dif_false t1 ?_
    by_cases e2 : x = b
    · rw [decide_eq_true e2] at t2
      rw [if_pos e2]
      exact dif_true t2 v1
    · rw [decide_eq_false e2] at t2
      rw [if_neg e2]
      exact dif_false t2 v4
theorem swap_ok {p : List Nat} {a b : Nat} {ps fs : List (List Nat)} (sp : Sh p) (hp : p.length ≤ 60) (ha : a < p.length) (hb : b < p.length) (hab : a ≠ b) (hl : ps.length < 100000) :
    d_Deck_swap [dk p ps fs, .int (a : Nat), .int (b : Nat)] = .ok (.int (lcmL (lens (circ (p.map (sw a b)))) : Nat)) (dk (p.map (sw a b)) (ps ++ [p]) []) := by
  have s1 : gSubt (.int ((tn p).length : Nat)) (.int 1) = some (.int ((p.length - 1 : Nat) : Int)) := by have := gSub_n (a := (tn p).length) (b := 1) (by simp; omega); simpa using this
  have i1 : d_is_from [.int (a : Nat), .int 0, .int ((p.length - 1 : Nat) : Int)] = .ok (.bl true) .non := by rw [is_from_i, decide_eq_true (by omega), decide_eq_true (by omega)]; rfl
  have i2 : d_is_from [.int (b : Nat), .int 0, .int ((p.length - 1 : Nat) : Int)] = .ok (.bl true) .non := by rw [is_from_i, decide_eq_true (by omega), decide_eq_true (by omega)]; rfl
  have e1 : gEq (.int (a : Nat)) (.int (b : Nat)) = some (.bl false) := by rw [gEq_n, decide_eq_false hab]
  have h5 := round_by_ok (sh_sw sp ha hb) (by simp; omega)
  have hc := sw_comp (p := p) (a := a) (b := b) (env := [some (dk p ps fs), some (.int (a : Nat)), some (.int (b : Nat)), some (.int ((p.length - 1 : Nat) : Int)), none]) (it := iAny (dFld 0 12 "now")) (any_tup (fld_ok rfl lk_now)) (by omega) (by simp) (fun x => rfl) (fun x => rfl) (fun x => rfl)
  have hm := methO_ok (df := d_Deck_become) (i := 0) (n := 12) (m := "become") (env := [some (dk p ps fs), some (.int (a : Nat)), some (.int (b : Nat)), some (.int ((p.length - 1 : Nat) : Int)), none]) rfl lk_become (args1 (fn1_val hc rfl bTuple_l)) rfl rfl (become_ok (fs := fs) hl)
  exact run_valI (b := b_Deck_swap) (env := [some (dk p ps fs), some (.int (a : Nat)), some (.int (b : Nat)), none, none]) (e := [some (dk (p.map (sw a b)) (ps ++ [p]) []), some (.int (a : Nat)), some (.int (b : Nat)), some (.int ((p.length - 1 : Nat) : Int)), none]) rfl
    (seq_nx (set_val (op_val (fn1_val (fld_ok rfl lk_now) rfl rfl) rfl rfl rfl s1)) (seq_nx (if_false (or_ff (not_tt (test_val (call_ok (args3 rfl rfl rfl) rfl i1))) (or_ff (not_tt (test_val (call_ok (args3 rfl rfl rfl) rfl i2))) (test_op rfl rfl rfl rfl e1))) rfl)
    (seq_nx (expr_nx hm) (ret_val (call_ok (args1 (fld_ok rfl lk_now)) rfl h5)))))
theorem undo_none {p : List Nat} {fs : List (List Nat)} : d_Deck_undo [dk p [] fs] = .ok (.bl false) (dk p [] fs) := by
  have t : gEq (.int ((trow []).length : Nat)) (.int 0) = some (.bl true) := gEq_n (a := 0) (b := 0)
  exact run_valI (b := b_Deck_undo) (env := [some (dk p [] fs)]) (e := [some (dk p [] fs)]) rfl (seq_rt (if_true (test_op (fn1_val (fld_ok rfl lk_past) rfl rfl) rfl rfl rfl t) (ret_val rfl)))
theorem cut_last {xs : List D} {x : D} : cutD (xs ++ [x]) none (some (-1)) = xs := by
  unfold cutD HT.sIx
  dsimp only
  rw [if_pos (by decide)]
  have : ((-1 : Int) + ((xs ++ [x]).length : Nat)).toNat = xs.length := by simp; omega
  rw [this]
  simp
theorem sl_ok {g : D → Option Int → Option Int → Option D} {a : DE} {lo hi : DP} {env e1 e2 e3 : Dn.Env} {x : Rv} {l u : Option Int} {dx d : D} (h1 : a env = .ok x e1) (h2 : lo e1 = .ok l e2) (h3 : hi e2 = .ok u e3) (r : rd e3 x = some dx) (h : g dx l u = some d) : dSl g a lo hi env = .ok (.val d) e3 := by
  unfold dSl
  rw [h1]
  dsimp only
  rw [h2]
  dsimp only
  rw [h3]
  dsimp only
  rw [r]
  dsimp only
  rw [h]
theorem undo_ok {p q : List Nat} {ps fs : List (List Nat)} (hl : fs.length < 100000) : d_Deck_undo [dk p (ps ++ [q]) fs] = .ok (.bl true) (dk q ps (fs ++ [p])) := by
  have t : gEq (.int ((trow (ps ++ [q])).length : Nat)) (.int 0) = some (.bl false) := by
    have := gEq_n (a := (trow (ps ++ [q])).length) (b := 0)
    rw [decide_eq_false (by simp [trow])] at this
    exact this
  have s1 := snoc_ok (i := 0) (f := "future") (g := "now") (env := [some (dk p (ps ++ [q]) fs)]) rfl lk_fut lk_now hl
  have a1 := fldSet_nx (f := "future") s1 (i := 0) (n := 12) rfl fl_len
  rw [pt_fut] at a1
  have g1 : gIx (.tup (trow (ps ++ [q]))) (.int (-1)) = some (.tup (tn q)) := by rw [← trow_snoc]; exact atI_last
  have a2 : sFldSet 0 12 "now" (dOp gIx (dFld 0 12 "past") (dUn gNeg (dC (.int 1)))) [some (.obj 12 (fl (.tup (tn p)) (.tup (trow (ps ++ [q]))) (.tup (trow (fs ++ [p])))))] = _ := fldSet_nx (f := "now") (op_val (fld_ok rfl lk_past) (un_val rfl rfl rfl) rfl rfl g1) rfl fl_len
  rw [pt_now] at a2
  have g2 : gSlV (.tup (trow (ps ++ [q]))) none (some (-1)) = some (.tup (trow ps)) := by
    show some (D.tup (cutD (trow (ps ++ [q])) none (some (-1)))) = _
    rw [← trow_snoc, cut_last]
  have a3 : sFldSet 0 12 "past" (dSl gSlV (dFld 0 12 "past") pNone (pSome (dUn gNeg (dC (.int 1))))) [some (.obj 12 (fl (.tup (tn q)) (.tup (trow (ps ++ [q]))) (.tup (trow (fs ++ [p])))))] = _ := fldSet_nx (f := "past") (sl_ok (fld_ok rfl lk_past) rfl rfl rfl g2) rfl fl_len
  rw [pt_past] at a3
  exact run_valI (b := b_Deck_undo) (env := [some (dk p (ps ++ [q]) fs)]) (e := [some (dk q ps (fs ++ [p]))]) rfl
    (seq_nx (if_false (test_op (fn1_val (fld_ok rfl lk_past) rfl rfl) rfl rfl rfl t) rfl) (seq_nx a1 (seq_nx a2 (seq_nx a3 (ret_val rfl)))))
end Pu

namespace Lw
open PySem PySem.Spec PyProof.Rows L2 Dn Lr
def topS (i : Nat) : Stmt := PySem.Challenge.pw_longround_k14_errors_apart.main.body.getD i (.Pass ⟨0, 0, 0, 0⟩)
abbrev s_BadLot : Stmt := methOf (topS 7) 0
theorem S_BadLot : FnScope ["self", "index"] ["self", "index"] (defScope s_BadLot) := ⟨rfl, rfl, rfl, by decide +kernel, rfl, by decide +kernel, by decide +kernel⟩
abbrev s_BadPacks : Stmt := methOf (topS 8) 0
theorem S_BadPacks : FnScope ["self", "index"] ["self", "index"] (defScope s_BadPacks) := ⟨rfl, rfl, rfl, by decide +kernel, rfl, by decide +kernel, by decide +kernel⟩
abbrev s_BadSeen : Stmt := methOf (topS 10) 0
theorem S_BadSeen : FnScope ["self", "index"] ["self", "index"] (defScope s_BadSeen) := ⟨rfl, rfl, rfl, by decide +kernel, rfl, by decide +kernel, by decide +kernel⟩
abbrev s_BadText : Stmt := methOf (topS 12) 0
theorem S_BadText : FnScope ["self", "word"] ["self", "word"] (defScope s_BadText) := ⟨rfl, rfl, rfl, by decide +kernel, rfl, by decide +kernel, by decide +kernel⟩
abbrev LX : List Nat := [0, 1, 2, 3, 4, 5, 6, 7, 8, 9, 10]
structure Top (K : PySem.W.Frag) (mg : Str → Option Value) (ct : Nat → Addr) : Prop where
  z_ValueError : mg "ValueError" = none
  z_abs : mg "abs" = none
  z_int : mg "int" = none
  z_isinstance : mg "isinstance" = none
  z_len : mg "len" = none
  z_range : mg "range" = none
  x_BadCards : XTxt K mg ct "BadCards" 3
  x_BadKind : XTxt K mg ct "BadKind" 7
  x_BadNumber : XTxt K mg ct "BadNumber" 4
  x_BadPlace : XTxt K mg ct "BadPlace" 9
  x_BadShuffle : XTxt K mg ct "BadShuffle" 0
  x_BadTimes : XTxt K mg ct "BadTimes" 2
  x_Unlike : XTxt K mg ct "Unlike" 1
  xa_BadLot : XTxtA K mg ct "BadLot" 5 "index"
  xa_BadPacks : XTxtA K mg ct "BadPacks" 6 "index"
  xa_BadSeen : XTxtA K mg ct "BadSeen" 8 "index"
  xa_BadText : XTxtA K mg ct "BadText" 10 "word"
  xf_BadLot : XfT K ct 5 "index"
  xf_BadPacks : XfT K ct 6 "index"
  xf_BadSeen : XfT K ct 8 "index"
  xf_BadText : XfT K ct 10 "word"
  g_BadCards : mg "BadCards" = some (.ref (ct 3))
  g_BadKind : mg "BadKind" = some (.ref (ct 7))
  g_BadLot : mg "BadLot" = some (.ref (ct 5))
  g_BadNumber : mg "BadNumber" = some (.ref (ct 4))
  g_BadPacks : mg "BadPacks" = some (.ref (ct 6))
  g_BadPlace : mg "BadPlace" = some (.ref (ct 9))
  g_BadSeen : mg "BadSeen" = some (.ref (ct 8))
  g_BadShuffle : mg "BadShuffle" = some (.ref (ct 0))
  g_BadText : mg "BadText" = some (.ref (ct 10))
  g_BadTimes : mg "BadTimes" = some (.ref (ct 2))
  g_ShuffleError : mg "ShuffleError" = some (.ref (ct 11))
  g_Unlike : mg "Unlike" = some (.ref (ct 1))
  isx : IsX K ct LX
section
variable {P : Program} {w : World} {K : PySem.W.Frag} {mg : Str → Option Value} {base : Heap} {ct : Nat → Addr}
/-! ### _law_random -/
abbrev s_l_random : Stmt := topS 14
theorem S_l_random : FnScope ["_law_script", "_law_salt", "_law_seed", "_law_cell"] ["_law_script", "_law_salt"] (defScope s_l_random) := ⟨rfl, rfl, rfl, by decide +kernel, rfl, by decide +kernel, by decide +kernel⟩
theorem ok_l_random (T : Top K mg ct) (F : DefT K mg "_law_random" s_l_random ["_law_script", "_law_salt"])  : FnT P w K mg base ct "_law_random" 2 2 false d_l_random :=
  fnT_mk (k := 1) (own := []) (N := ["_law_script", "_law_salt", "_law_seed", "_law_cell"]) (b := b_l_random) F S_l_random rfl rfl fun f cdv A outer s H E H0 G0 iop hr hp tk => 
  (jss_cons (js_set (i := 2) rfl S_l_random.nd (je_var 1 rfl))
    (jss_cons (js_for hp rfl (ji_any (je_var 0 rfl)) (jg_name (i := 3) rfl S_l_random.nd)
    (jss_one (js_set (i := 2) rfl S_l_random.nd (je_mod (je_callTy call_intA fs_int T.z_int (ja_cons (je_add (je_mul (je_var 2 rfl) je_int) (je_callB call_abs fs_abs T.z_abs (ja_cons (je_var 3 rfl) ja_nil))) ja_nil)) je_int))))
    (jss_one (js_retN (je_cat (JE.v (je_lst (ja_cons (je_var 2 rfl) (ja_cons je_int ja_nil)))) (JE.v (je_lc (own := [("_law_cell", 3)]) (vs := [3]) rfl S_l_random.nd rfl rfl (show blkC ["_law_script", "_law_salt", "_law_seed", "_law_cell"] (defScope s_l_random) _ _ = true from by decide +kernel) (ji_any (je_var 0 rfl)) (fun _ _ _ _ _ => pg_name (i := 3) S_l_random.nd rfl (Or.inl rfl)) (sgv_nm rfl rfl) (fun _ _ _ _ _ => pts_one (JT.can (jt_ge (je_var 3 rfl) (je_pow je_int je_int)))) sim_canT (fun _ _ _ _ _ => (je_var 3 rfl)))))))))
/-! ### _law_below -/
abbrev s_l_below : Stmt := topS 15
theorem S_l_below : FnScope ["_law_d", "_law_size", "_law_result"] ["_law_d", "_law_size"] (defScope s_l_below) := ⟨rfl, rfl, rfl, by decide +kernel, rfl, by decide +kernel, by decide +kernel⟩
theorem ok_l_below (T : Top K mg ct) (F : DefT K mg "_law_below" s_l_below ["_law_d", "_law_size"])  : FnT P w K mg base ct "_law_below" 2 2 true d_l_below :=
  fnT_mk (k := 1) (own := [0]) (N := ["_law_d", "_law_size", "_law_result"]) (b := b_l_below) F S_l_below rfl rfl fun f cdv A outer s H E H0 G0 iop hr hp tk => 
  (jss_cons (js_if (jt_w (jw_and (jt_eq hr.units (je_ix (je_own 0 rfl) je_int) je_int) (jw_and1 (jt_gt (je_callB call_lenA fs_len T.z_len (ja_cons (je_own 0 rfl) ja_nil)) je_int))))
    (jss_one (js_setIx (i := 0) rfl (je_mut PySem.F.slot_list_pop PySem.F.type_list_pop mt_popAt ms_popAt rfl (ja_cons je_int ja_nil)) je_int))
    jss_nil)
    (jss_cons (js_if (jt_gt (je_ix (je_own 0 rfl) je_int) je_int)
    (jss_cons (js_set (i := 2) rfl S_l_below.nd (je_mod (je_callTy call_intA fs_int T.z_int (ja_cons (je_ix (je_own 0 rfl) je_int) ja_nil)) (je_var 1 rfl)))
    (jss_cons (js_setIx (i := 0) rfl (je_div (je_ix (je_own 0 rfl) je_int) (je_var 1 rfl)) je_int)
    (jss_one (js_ret (je_var 2 rfl)))))
    jss_nil)
    (jss_cons (js_setIx (i := 0) rfl (je_mod (je_callTy call_intA fs_int T.z_int (ja_cons (je_add (je_mul (je_ix (je_own 0 rfl) je_int) je_int) je_int) ja_nil)) je_int) je_int)
    (jss_one (js_ret (je_mod (je_callTy call_intA fs_int T.z_int (ja_cons (je_div (je_ix (je_own 0 rfl) je_int) je_int) ja_nil)) (je_var 1 rfl)))))))
/-! ### _law_pick -/
abbrev s_l_pick : Stmt := topS 16
theorem S_l_pick : FnScope ["_law_d", "_law_items"] ["_law_d", "_law_items"] (defScope s_l_pick) := ⟨rfl, rfl, rfl, by decide +kernel, rfl, by decide +kernel, by decide +kernel⟩
theorem ok_l_pick (T : Top K mg ct) (F : DefT K mg "_law_pick" s_l_pick ["_law_d", "_law_items"]) (H_l_below : FnT P w K mg base ct "_law_below" 2 2 true d_l_below) : FnT P w K mg base ct "_law_pick" 3 2 true d_l_pick :=
  fnT_mk (k := 2) (own := [0]) (N := ["_law_d", "_law_items"]) (b := b_l_pick) F S_l_pick rfl rfl fun f cdv A outer s H E H0 G0 iop hr hp tk => 
  (jss_one (js_ret (je_ix (je_var 1 rfl) (je_callIOF H_l_below (hr.mono (by decide)) tk (ja_cons (je_own 0 rfl) (ja_cons (je_callB call_lenA fs_len T.z_len (ja_cons (je_var 1 rfl) ja_nil)) ja_nil)) (alen_cons (alen_cons alen_nil))))))
/-! ### _law_one -/
abbrev s_l_one : Stmt := topS 17
theorem S_l_one : FnScope ["_law_d", "_law_error", "_law_one_here", "_law_kind"] ["_law_d"] (defScope s_l_one) := ⟨rfl, rfl, rfl, by decide +kernel, rfl, by decide +kernel, by decide +kernel⟩
def b_l_one : DS := (sSeq (sPar [2, 3] (pCons (dCallIO d_l_pick (aCons (dOwn 0) (aCons (dDisp .lst (aCons (dC (.int 0)) (aCons (dUn gNeg (dC (.int 1))) (aCons (dC .non) (aCons (dC (.str "a")) (aCons (dDisp .tup aNil) aNil)))))) aNil))) (pCons (dCallIO d_l_below (aCons (dOwn 0) (aCons (dC (.int 4)) aNil))) pNil)))
    (sSeq (sIf (dTest (dOp gEq (dVar 3) (dC (.int 0))))
    (sSeq (sSet 1 (dMk 5 "index" (dVar 2)))
    (sRet (dDisp .tup (aCons (dVar 1) (aCons (dOp gEq (dUn (gXf [5, 6, 8] "index") (dVar 1)) (dVar 2)) aNil)))))
    sNil)
    (sSeq (sIf (dTest (dOp gEq (dVar 3) (dC (.int 1))))
    (sSeq (sSet 1 (dMk 6 "index" (dVar 2)))
    (sRet (dDisp .tup (aCons (dVar 1) (aCons (dOp gEq (dUn (gXf [5, 6, 8] "index") (dVar 1)) (dVar 2)) aNil)))))
    sNil)
    (sSeq (sIf (dTest (dOp gEq (dVar 3) (dC (.int 2))))
    (sSeq (sSet 1 (dMk 8 "index" (dVar 2)))
    (sRet (dDisp .tup (aCons (dVar 1) (aCons (dOp gEq (dUn (gXf [5, 6, 8] "index") (dVar 1)) (dVar 2)) aNil)))))
    sNil)
    (sSeq (sSet 1 (dMk 10 "word" (dVar 2)))
    (sRet (dDisp .tup (aCons (dVar 1) (aCons (dOp gEq (dUn (gXf [10] "word") (dVar 1)) (dVar 2)) aNil)))))))))
def d_l_one : DF := runF 4 true b_l_one
theorem ok_l_one (T : Top K mg ct) (F : DefT K mg "_law_one" s_l_one ["_law_d"]) (H_l_below : FnT P w K mg base ct "_law_below" 2 2 true d_l_below) (H_l_pick : FnT P w K mg base ct "_law_pick" 3 2 true d_l_pick) : FnT P w K mg base ct "_law_one" 4 1 true d_l_one :=
  fnT_mk (k := 3) (own := [0]) (N := ["_law_d", "_law_error", "_law_one_here", "_law_kind"]) (b := b_l_one) F S_l_one rfl rfl fun f cdv A outer s H E H0 G0 iop hr hp tk => 
  (jss_cons (js_par2 (i := 2) (j := 3) (f := false) (g := false) rfl S_l_one.nd rfl (jf_cons (je_callIOF H_l_pick (hr.mono (by decide)) tk (ja_cons (je_own 0 rfl) (ja_cons (JE.v (je_lst (ja_cons je_int (ja_cons (je_neg je_int) (ja_cons je_non (ja_cons je_str (ja_cons (je_tup ja_nil) ja_nil))))))) ja_nil)) (alen_cons (alen_cons alen_nil))) (jf_cons (je_callIOF H_l_below (hr.mono (by decide)) tk (ja_cons (je_own 0 rfl) (ja_cons je_int ja_nil)) (alen_cons (alen_cons alen_nil))) jf_nil)))
    (jss_cons (js_if (jt_eq hr.units (je_var 3 rfl) je_int)
    (jss_cons (js_set (i := 1) rfl S_l_one.nd (je_mk1 (k := 0) T.xa_BadLot (hr.mono (by decide)) (je_var 2 rfl)))
    (jss_one (js_ret (je_tup (ja_cons (je_var 1 rfl) (ja_cons (je_eq hr.units (je_xfV (xfl_cons T.xf_BadLot (xfl_cons T.xf_BadPacks (xfl_cons T.xf_BadSeen xfl_nil))) (je_var 1 rfl)) (je_var 2 rfl)) ja_nil))))))
    jss_nil)
    (jss_cons (js_if (jt_eq hr.units (je_var 3 rfl) je_int)
    (jss_cons (js_set (i := 1) rfl S_l_one.nd (je_mk1 (k := 0) T.xa_BadPacks (hr.mono (by decide)) (je_var 2 rfl)))
    (jss_one (js_ret (je_tup (ja_cons (je_var 1 rfl) (ja_cons (je_eq hr.units (je_xfV (xfl_cons T.xf_BadLot (xfl_cons T.xf_BadPacks (xfl_cons T.xf_BadSeen xfl_nil))) (je_var 1 rfl)) (je_var 2 rfl)) ja_nil))))))
    jss_nil)
    (jss_cons (js_if (jt_eq hr.units (je_var 3 rfl) je_int)
    (jss_cons (js_set (i := 1) rfl S_l_one.nd (je_mk1 (k := 0) T.xa_BadSeen (hr.mono (by decide)) (je_var 2 rfl)))
    (jss_one (js_ret (je_tup (ja_cons (je_var 1 rfl) (ja_cons (je_eq hr.units (je_xfV (xfl_cons T.xf_BadLot (xfl_cons T.xf_BadPacks (xfl_cons T.xf_BadSeen xfl_nil))) (je_var 1 rfl)) (je_var 2 rfl)) ja_nil))))))
    jss_nil)
    (jss_cons (js_set (i := 1) rfl S_l_one.nd (je_mk1 (k := 0) T.xa_BadText (hr.mono (by decide)) (je_var 2 rfl)))
    (jss_one (js_ret (je_tup (ja_cons (je_var 1 rfl) (ja_cons (je_eq hr.units (je_xfV (xfl_cons T.xf_BadText xfl_nil) (je_var 1 rfl)) (je_var 2 rfl)) ja_nil))))))))))
/-! ### _law_classes -/
abbrev s_l_classes : Stmt := topS 18
theorem S_l_classes : FnScope ["_law_error", "_law_found", "_law_one_here"] ["_law_error"] (defScope s_l_classes) := ⟨rfl, rfl, rfl, by decide +kernel, rfl, by decide +kernel, by decide +kernel⟩
def b_l_classes : DS := (sSeq (sSet 1 (dDisp .lst aNil))
    (sSeq (sSet 1 (dOp gAdd (dVar 1) (dDisp .lst (aCons (dUn (gIsX LX 3) (dVar 0)) (aCons (dUn (gIsX LX 7) (dVar 0)) (aCons (dUn (gIsX LX 5) (dVar 0)) aNil))))))
    (sSeq (sSet 1 (dOp gAdd (dVar 1) (dDisp .lst (aCons (dUn (gIsX LX 4) (dVar 0)) (aCons (dUn (gIsX LX 6) (dVar 0)) (aCons (dUn (gIsX LX 9) (dVar 0)) aNil))))))
    (sSeq (sSet 1 (dOp gAdd (dVar 1) (dDisp .lst (aCons (dUn (gIsX LX 8) (dVar 0)) (aCons (dUn (gIsX LX 0) (dVar 0)) (aCons (dUn (gIsX LX 10) (dVar 0)) aNil))))))
    (sSeq (sSet 1 (dOp gAdd (dVar 1) (dDisp .lst (aCons (dUn (gIsX LX 2) (dVar 0)) (aCons (dUn (gIsX LX 1) (dVar 0)) aNil)))))
    (sRet (dFn bLen (aCons (dComp [2] (iAny (dVar 1)) (gN 2) (dTest (dVar 2)) (dVar 2)) aNil))))))))
def d_l_classes : DF := runF 3 false b_l_classes
theorem ok_l_classes (T : Top K mg ct) (F : DefT K mg "_law_classes" s_l_classes ["_law_error"])  : FnT P w K mg base ct "_law_classes" 2 1 false d_l_classes :=
  fnT_mk (k := 1) (own := []) (N := ["_law_error", "_law_found", "_law_one_here"]) (b := b_l_classes) F S_l_classes rfl rfl fun f cdv A outer s H E H0 G0 iop hr hp tk => 
  (jss_cons (js_set (i := 1) rfl S_l_classes.nd (JE.v (je_lst ja_nil)))
    (jss_cons (js_set (i := 1) rfl S_l_classes.nd (je_add (je_var 1 rfl) (JE.v (je_lst (ja_cons (je_isX T.isx T.z_isinstance T.g_BadCards rfl (je_var 0 rfl)) (ja_cons (je_isX T.isx T.z_isinstance T.g_BadKind rfl (je_var 0 rfl)) (ja_cons (je_isX T.isx T.z_isinstance T.g_BadLot rfl (je_var 0 rfl)) ja_nil)))))))
    (jss_cons (js_set (i := 1) rfl S_l_classes.nd (je_add (je_var 1 rfl) (JE.v (je_lst (ja_cons (je_isX T.isx T.z_isinstance T.g_BadNumber rfl (je_var 0 rfl)) (ja_cons (je_isX T.isx T.z_isinstance T.g_BadPacks rfl (je_var 0 rfl)) (ja_cons (je_isX T.isx T.z_isinstance T.g_BadPlace rfl (je_var 0 rfl)) ja_nil)))))))
    (jss_cons (js_set (i := 1) rfl S_l_classes.nd (je_add (je_var 1 rfl) (JE.v (je_lst (ja_cons (je_isX T.isx T.z_isinstance T.g_BadSeen rfl (je_var 0 rfl)) (ja_cons (je_isX T.isx T.z_isinstance T.g_BadShuffle rfl (je_var 0 rfl)) (ja_cons (je_isX T.isx T.z_isinstance T.g_BadText rfl (je_var 0 rfl)) ja_nil)))))))
    (jss_cons (js_set (i := 1) rfl S_l_classes.nd (je_add (je_var 1 rfl) (JE.v (je_lst (ja_cons (je_isX T.isx T.z_isinstance T.g_BadTimes rfl (je_var 0 rfl)) (ja_cons (je_isX T.isx T.z_isinstance T.g_Unlike rfl (je_var 0 rfl)) ja_nil))))))
    (jss_one (js_ret (je_callB call_lenA fs_len T.z_len (ja_cons (JE.v (je_lc (own := [("_law_one_here", 2)]) (vs := [2]) rfl S_l_classes.nd rfl rfl (show blkC ["_law_error", "_law_found", "_law_one_here"] (defScope s_l_classes) _ _ = true from by decide +kernel) (ji_any (je_var 1 rfl)) (fun _ _ _ _ _ => pg_name (i := 2) S_l_classes.nd rfl (Or.inl rfl)) (sgv_nm rfl rfl) (fun _ _ _ _ _ => pts_one (JT.can (jt_val (je_var 2 rfl)))) sim_canT (fun _ _ _ _ _ => (je_var 2 rfl)))) ja_nil)))))))))
/-! ### law -/
abbrev s_law : Stmt := topS 19
theorem S_law : FnScope ["_law_script", "_law_d", "_law_turn", "_law_errors", "_law_error", "_law_is_right", "_law_one_here"] ["_law_script"] (defScope s_law) := ⟨rfl, rfl, rfl, by decide +kernel, rfl, by decide +kernel, by decide +kernel⟩
def b_law : DS := (sSeq (sSet 1 (dCallN d_l_random (aCons (dVar 0) (aCons (dC (.int 2314)) aNil))))
    (sSeq (sFor (iFn range1 (aCons (dC (.int 4)) aNil)) (gN 2)
    (sSeq (sAsg (dCallIO d_l_one (aCons (dOwn 1) aNil)) (gTp 2 (gsCons (gN 4) (gsCons (gN 5) gsNil))))
    (sSeq (sIf (dOr (dNot (dTest (dVar 5))) (dOr (dTest (dOp gNe (dCall d_l_classes (aCons (dVar 4) aNil)) (dC (.int 1)))) (dNot (dTest (dUn (gIsX LX 11) (dVar 4))))))
    (sRet (dC (.bl false)))
    sNil)
    (sIf (dNot (dTest (dUn (gIsV LX) (dVar 4))))
    (sRet (dC (.bl false)))
    sNil))))
    (sSeq (sSet 3 (dDisp .lst (aCons (dC (.exc 0 "" [])) (aCons (dC (.exc 1 "" [])) (aCons (dC (.exc 2 "" [])) (aCons (dC (.exc 3 "" [])) (aCons (dC (.exc 4 "" [])) (aCons (dC (.exc 7 "" [])) (aCons (dC (.exc 9 "" [])) aNil)))))))))
    (sRet (dOp gEq (dComp [6] (iAny (dVar 3)) (gN 6) (dOr (dTest (dOp gNe (dCall d_l_classes (aCons (dVar 6) aNil)) (dC (.int 1)))) (dNot (dTest (dUn (gIsX LX 11) (dVar 6))))) (dVar 6)) (dDisp .lst aNil))))))
def d_law : DF := runF 7 false b_law
theorem okL {f : Addr} {fd : FuncData} (T : Top K mg ct) (F1 : Fun K "law" "law" s_law f fd) (H_l_random : FnT P w K mg base ct "_law_random" 2 2 false d_l_random) (H_l_one : FnT P w K mg base ct "_law_one" 4 1 true d_l_one) (H_l_classes : FnT P w K mg base ct "_law_classes" 2 1 false d_l_classes) : FnOk P w K mg base (L2.CX P w) 5 f fd ["_law_script"] (spF K ct 1 false d_law) :=
  fn_ok (k := 4) (own := [1]) (b := b_law) F1 S_law rfl rfl fun cdv A outer s H E H0 G0 iop hr => (fun (hp : PassesOwn (model P w) (cxOf (L2.CX P w) P w K mg base ["_law_script", "_law_d", "_law_turn", "_law_errors", "_law_error", "_law_is_right", "_law_one_here"] "law" (defScope s_law) f cdv A outer s H E).A (cxOf (L2.CX P w) P w K mg base ["_law_script", "_law_d", "_law_turn", "_law_errors", "_law_error", "_law_is_right", "_law_one_here"] "law" (defScope s_law) f cdv A outer s H E).env (cxOf (L2.CX P w) P w K mg base ["_law_script", "_law_d", "_law_turn", "_law_errors", "_law_error", "_law_is_right", "_law_one_here"] "law" (defScope s_law) f cdv A outer s H E).xe) (tk : Takes (cxOf (L2.CX P w) P w K mg base ["_law_script", "_law_d", "_law_turn", "_law_errors", "_law_error", "_law_is_right", "_law_one_here"] "law" (defScope s_law) f cdv A outer s H E) (fun cls d _ H => E cls d H)) => 
  (jss_cons (js_setN (i := 1) rfl S_law.nd (je_callNF H_l_random (hr.mono (by decide)) tk (ja_cons (je_var 0 rfl) (ja_cons je_int ja_nil)) (alen_cons (alen_cons alen_nil))))
    (jss_cons (js_for hp rfl (ji_range1 T.z_range (ja_cons je_int ja_nil)) (jg_name (i := 2) rfl S_law.nd)
    (jss_cons (js_asg (je_callIOF H_l_one (hr.mono (by decide)) tk (ja_cons (je_own 1 rfl) ja_nil) (alen_cons alen_nil)) (jg_tup rfl (jgs_cons (jg_name (i := 4) rfl S_law.nd) (jgs_cons (jg_name (i := 5) rfl S_law.nd) jgs_nil))))
    (jss_cons (js_if (jt_w (jw_or (jt_not (jt_val (je_var 5 rfl))) (jw_or (jt_ne hr.units (je_callF H_l_classes (hr.mono (by decide)) tk (ja_cons (je_var 4 rfl) ja_nil) (alen_cons alen_nil)) je_int) (jw_or1 (jt_not (jt_val (je_isX T.isx T.z_isinstance T.g_ShuffleError rfl (je_var 4 rfl))))))))
    (jss_one (js_ret je_bl))
    jss_nil)
    (jss_one (js_if (jt_not (jt_val (je_isV T.isx T.z_isinstance T.z_ValueError (je_var 4 rfl))))
    (jss_one (js_ret je_bl))
    jss_nil)))))
    (jss_cons (js_set (i := 3) rfl S_law.nd (JE.v (je_lst (ja_cons (je_mk0 T.x_BadShuffle) (ja_cons (je_mk0 T.x_Unlike) (ja_cons (je_mk0 T.x_BadTimes) (ja_cons (je_mk0 T.x_BadCards) (ja_cons (je_mk0 T.x_BadNumber) (ja_cons (je_mk0 T.x_BadKind) (ja_cons (je_mk0 T.x_BadPlace) ja_nil))))))))))
    (jss_one (js_ret (je_eq hr.units (JE.v (je_lc (own := [("_law_one_here", 6)]) (vs := [6]) rfl S_law.nd rfl rfl (show blkC ["_law_script", "_law_d", "_law_turn", "_law_errors", "_law_error", "_law_is_right", "_law_one_here"] (defScope s_law) _ _ = true from by decide +kernel) (ji_any (je_var 3 rfl)) (fun _ _ _ _ _ => pg_name (i := 6) S_law.nd rfl (Or.inl rfl)) (sgv_nm rfl rfl) (fun _ _ _ _ _ => pts_one (JT.can (jt_w (jw_or (jt_ne hr.units (je_callF H_l_classes (hr.mono (by decide)) takes0 (ja_cons (je_var 6 rfl) ja_nil) (alen_cons alen_nil)) je_int) (jw_or1 (jt_not (jt_val (je_isX T.isx T.z_isinstance T.g_ShuffleError rfl (je_var 6 rfl))))))))) sim_canT (fun _ _ _ _ _ => (je_var 6 rfl)))) (JE.v (je_lst ja_nil))))))))) (passes_of rfl) (takes_of rfl rfl rfl rfl)
end
/-! ### the head -/
def dfs : List He.DefD := [dd "_law_random" s_l_random, dd "_law_below" s_l_below, dd "_law_pick" s_l_pick, dd "_law_one" s_l_one, dd "_law_classes" s_l_classes, dd "law" s_law, ddM "BadLot" "__init__" "BadLot.__init__" s_BadLot, ddM "BadPacks" "__init__" "BadPacks.__init__" s_BadPacks, ddM "BadSeen" "__init__" "BadSeen.__init__" s_BadSeen, ddM "BadText" "__init__" "BadText.__init__" s_BadText]
def fas : List He.Fa := [.glo "_law_random", .glo "_law_below", .glo "_law_pick", .glo "_law_one", .glo "_law_classes", .glo "law", .free "ValueError", .free "abs", .free "int", .free "isinstance", .free "len", .free "range", .exc "BadCards", .glo "BadCards", .exc "BadKind", .glo "BadKind", .exc "BadNumber", .glo "BadNumber", .exc "BadPlace", .glo "BadPlace", .exc "BadShuffle", .glo "BadShuffle", .exc "BadTimes", .glo "BadTimes", .exc "Unlike", .glo "Unlike", .glo "BadLot", .glo "BadPacks", .glo "BadSeen", .glo "BadText", .glo "ShuffleError"]
abbrev R : PySem.W.OpenRow := PySem.W.OpenLaw.row PySem.Challenge.rw_longround_k14_errors_apart
def exb (K : PySem.W.Frag) : Bool := oxfB K "BadLot" "index" && oxfB K "BadPacks" "index" && oxfB K "BadSeen" "index" && oxfB K "BadText" "word" && xfaB K "BadLot" "index" && xfaB K "BadPacks" "index" && xfaB K "BadSeen" "index" && xfaB K "BadText" "word" && isXB K LX
abbrev hk : PySem.W.Hook := hookE 4 fas dfs exb
def ob (s : PySem.W.SharedT) : He.AlD × Bool := obsE 4 fas dfs exb (HandSHeadRun.getT s)
theorem ob_eq (s : PySem.W.SharedT) : ob s = hk.obs s.abs := obsE_eq (HandSHeadRun.getT_eq s)
def lo0 : List PySem.Str := ["ShuffleError", "BadShuffle", "Unlike", "BadTimes", "BadCards", "BadNumber", "BadLot", "BadPacks", "BadKind", "BadSeen", "BadPlace", "BadText", "_law_random", "_law_below", "_law_pick", "_law_one", "_law_classes"]
def loose : List PySem.Str := lo0
theorem run (w : World) : HandSHeadRun.RunEq R (PySem.W.view R.prog [19]) hk ob 40000 loose w := by
  intro os
  kernel_rfl
section
variable {P : Program} {w : World} {K : PySem.W.Frag} {mg : Str → Option Value} {h : Heap} {f : Addr}
theorem xa_of_BadLot (X : K.In h) (G : h.Ns mainGlobals mg) (c : He.SaysD fas dfs K) (cx : oxfB K "BadLot" "index" = true) : XTxtA K mg (ctK K) "BadLot" 5 "index" := xtxtA_of (st := s_BadLot) (q := "BadLot.__init__") X G c 6 26 rfl rfl rfl cx S_BadLot (by decide +kernel) (Or.inl rfl) (Or.inl rfl) (by decide) (by decide) (fun _ _ _ _ _ _ us hl => match us, hl with | [_, _], _ => rfl)
theorem xa_of_BadPacks (X : K.In h) (G : h.Ns mainGlobals mg) (c : He.SaysD fas dfs K) (cx : oxfB K "BadPacks" "index" = true) : XTxtA K mg (ctK K) "BadPacks" 6 "index" := xtxtA_of (st := s_BadPacks) (q := "BadPacks.__init__") X G c 7 27 rfl rfl rfl cx S_BadPacks (by decide +kernel) (Or.inl rfl) (Or.inl rfl) (by decide) (by decide) (fun _ _ _ _ _ _ us hl => match us, hl with | [_, _], _ => rfl)
theorem xa_of_BadSeen (X : K.In h) (G : h.Ns mainGlobals mg) (c : He.SaysD fas dfs K) (cx : oxfB K "BadSeen" "index" = true) : XTxtA K mg (ctK K) "BadSeen" 8 "index" := xtxtA_of (st := s_BadSeen) (q := "BadSeen.__init__") X G c 8 28 rfl rfl rfl cx S_BadSeen (by decide +kernel) (Or.inl rfl) (Or.inl rfl) (by decide) (by decide) (fun _ _ _ _ _ _ us hl => match us, hl with | [_, _], _ => rfl)
theorem xa_of_BadText (X : K.In h) (G : h.Ns mainGlobals mg) (c : He.SaysD fas dfs K) (cx : oxfB K "BadText" "word" = true) : XTxtA K mg (ctK K) "BadText" 10 "word" := xtxtA_of (st := s_BadText) (q := "BadText.__init__") X G c 9 29 rfl rfl rfl cx S_BadText (by decide +kernel) (Or.inl rfl) (Or.inl rfl) (by decide) (by decide) (fun _ _ _ _ _ _ us hl => match us, hl with | [_, _], _ => rfl)
theorem top_of (X : K.In h) (G : h.Ns mainGlobals mg) (c : He.SaysD fas dfs K) (cx : exb K = true) : Top K mg (ctK K) where
  z_ValueError := He.free_ok X G (c.fact 6 rfl)
  z_abs := He.free_ok X G (c.fact 7 rfl)
  z_int := He.free_ok X G (c.fact 8 rfl)
  z_isinstance := He.free_ok X G (c.fact 9 rfl)
  z_len := He.free_ok X G (c.fact 10 rfl)
  z_range := He.free_ok X G (c.fact 11 rfl)
  x_BadCards := xtxt_of X G c 12 13 rfl rfl rfl
  x_BadKind := xtxt_of X G c 14 15 rfl rfl rfl
  x_BadNumber := xtxt_of X G c 16 17 rfl rfl rfl
  x_BadPlace := xtxt_of X G c 18 19 rfl rfl rfl
  x_BadShuffle := xtxt_of X G c 20 21 rfl rfl rfl
  x_BadTimes := xtxt_of X G c 22 23 rfl rfl rfl
  x_Unlike := xtxt_of X G c 24 25 rfl rfl rfl
  xa_BadLot := xa_of_BadLot X G c (He.ba (He.ba (He.ba (He.ba (He.ba (He.ba (He.ba (He.ba cx).1).1).1).1).1).1).1).1
  xa_BadPacks := xa_of_BadPacks X G c (He.ba (He.ba (He.ba (He.ba (He.ba (He.ba (He.ba (He.ba cx).1).1).1).1).1).1).1).2
  xa_BadSeen := xa_of_BadSeen X G c (He.ba (He.ba (He.ba (He.ba (He.ba (He.ba (He.ba cx).1).1).1).1).1).1).2
  xa_BadText := xa_of_BadText X G c (He.ba (He.ba (He.ba (He.ba (He.ba (He.ba cx).1).1).1).1).1).2
  xf_BadLot := xfT_of (He.ba (He.ba (He.ba (He.ba (He.ba cx).1).1).1).1).2 rfl
  xf_BadPacks := xfT_of (He.ba (He.ba (He.ba (He.ba cx).1).1).1).2 rfl
  xf_BadSeen := xfT_of (He.ba (He.ba (He.ba cx).1).1).2 rfl
  xf_BadText := xfT_of (He.ba (He.ba cx).1).2 rfl
  g_BadCards := He.glo_ok X G (c.fact 13 rfl)
  g_BadKind := He.glo_ok X G (c.fact 15 rfl)
  g_BadLot := He.glo_ok X G (c.fact 26 rfl)
  g_BadNumber := He.glo_ok X G (c.fact 17 rfl)
  g_BadPacks := He.glo_ok X G (c.fact 27 rfl)
  g_BadPlace := He.glo_ok X G (c.fact 19 rfl)
  g_BadSeen := He.glo_ok X G (c.fact 28 rfl)
  g_BadShuffle := He.glo_ok X G (c.fact 21 rfl)
  g_BadText := He.glo_ok X G (c.fact 29 rfl)
  g_BadTimes := He.glo_ok X G (c.fact 23 rfl)
  g_ShuffleError := He.glo_ok X G (c.fact 30 rfl)
  g_Unlike := He.glo_ok X G (c.fact 25 rfl)
  isx := isXB_ok (He.ba cx).2
theorem D_l_random (X : K.In h) (G : h.Ns mainGlobals mg) (c : He.SaysD fas dfs K) : DefT K mg "_law_random" s_l_random ["_law_script", "_law_salt"] := defT_of X G c 0 0 rfl rfl fun _ _ _ _ _ _ us hl => match us, hl with | [_, _], _ => rfl
theorem D_l_below (X : K.In h) (G : h.Ns mainGlobals mg) (c : He.SaysD fas dfs K) : DefT K mg "_law_below" s_l_below ["_law_d", "_law_size"] := defT_of X G c 1 1 rfl rfl fun _ _ _ _ _ _ us hl => match us, hl with | [_, _], _ => rfl
theorem D_l_pick (X : K.In h) (G : h.Ns mainGlobals mg) (c : He.SaysD fas dfs K) : DefT K mg "_law_pick" s_l_pick ["_law_d", "_law_items"] := defT_of X G c 2 2 rfl rfl fun _ _ _ _ _ _ us hl => match us, hl with | [_, _], _ => rfl
theorem D_l_one (X : K.In h) (G : h.Ns mainGlobals mg) (c : He.SaysD fas dfs K) : DefT K mg "_law_one" s_l_one ["_law_d"] := defT_of X G c 3 3 rfl rfl fun _ _ _ _ _ _ us hl => match us, hl with | [_], _ => rfl
theorem D_l_classes (X : K.In h) (G : h.Ns mainGlobals mg) (c : He.SaysD fas dfs K) : DefT K mg "_law_classes" s_l_classes ["_law_error"] := defT_of X G c 4 4 rfl rfl fun _ _ _ _ _ _ us hl => match us, hl with | [_], _ => rfl
theorem D_law (X : K.In h) (G : h.Ns mainGlobals mg) (c : He.SaysD fas dfs K) : DefT K mg "law" s_law ["_law_script"] := defT_of X G c 5 5 rfl rfl fun _ _ _ _ _ _ us hl => match us, hl with | [_], _ => rfl
theorem facts (X : K.In h) (G : h.Ns mainGlobals mg) (hmg : mg ("law" : Str) = some (.ref f)) (c : He.SaysD fas dfs K) (cx : exb K = true) : ∃ fd : FuncData, (∀ (s : Shared) (v : Value), BindsTo s fd ⟨[v], []⟩ [("_law_script", v)]) ∧ ∀ base : Heap, FnOk P w K mg base (L2.CX P w) 5 f fd ["_law_script"] (spF K (ctK K) 1 false d_law) := by
  obtain ⟨fd, F⟩ := c.def_ 5 (d := dd "law" s_law) rfl
  have e := hmg.symm.trans (He.glo_ok X G (c.fact 5 (f := .glo "law") rfl))
  cases e
  have F2 : FnP K "law" s_law (He.ga K "law") fd := F
  have b := F2.bindsA (ps := ["_law_script"]) fun _ _ _ _ _ _ us hl => match us, hl with | [_], _ => rfl
  refine ⟨fd, fun s v => b s [v] rfl, fun base => ?_⟩
  have T := top_of X G c cx
  have H_l_random := ok_l_random (P := P) (w := w) (base := base) T (D_l_random X G c) 
  have H_l_below := ok_l_below (P := P) (w := w) (base := base) T (D_l_below X G c) 
  have H_l_pick := ok_l_pick (P := P) (w := w) (base := base) T (D_l_pick X G c) H_l_below
  have H_l_one := ok_l_one (P := P) (w := w) (base := base) T (D_l_one X G c) H_l_below H_l_pick
  have H_l_classes := ok_l_classes (P := P) (w := w) (base := base) T (D_l_classes X G c) 
  exact okL T (fun_of F2) H_l_random H_l_one H_l_classes
end
end Lw
section
open PySem PySem.W PySem.Calls PyProof.Rows
theorem Lw.walks (hpure : ∀ xs : List Int, xs.length ≤ 63 → Lw.d_law [.fls (xs.map Dn.D.int)] = .ok (.bl true) .non) : PySem.Challenge.rw_longround_k14_errors_apart.Holds := by
  w_on; o_law
  refine HandSHeadRun.head_any (r := OpenLaw.row PySem.Challenge.rw_longround_k14_errors_apart) (q := view (OpenLaw.row PySem.Challenge.rw_longround_k14_errors_apart).prog [19]) (H := Lw.hk) (ob := Lw.ob) (M := 40000) (loose := Lw.loose) (d := HandSHeadRun.topDef (OpenLaw.row PySem.Challenge.rw_longround_k14_errors_apart).prog 19) (kwd := []) Lw.ob_eq
    (by kernel_rfl) (fun s => by kernel_rfl) Lw.run (by kernel_rfl) (by kernel_rfl) (by kernel_rfl) (by rfl) (by first | assumption | decide +kernel) (by decide +kernel) ⟨rfl, rfl, rfl, rfl, rfl, by decide +kernel⟩ ?hw ?hc
  case hw => w_witness2
  case hc =>
    refine Dn.walk_ofW (l := PySem.Challenge.rw_longround_k14_errors_apart) (n := 63) (k := 5) (x := "_law_script") rfl (by decide) (by kernel_rfl) ⟨rfl, by decide, by decide⟩ ?F
    intro w mg fa h Y G hmg0
    obtain ⟨K, KX, c, cx⟩ := Y
    have hmg : mg ("law" : PySem.Str) = some (.ref fa) := by
      have e : (HandSHeadRun.topDef (OpenLaw.row PySem.Challenge.rw_longround_k14_errors_apart).prog 19).name = ("law" : PySem.Str) := by kernel_rfl
      rw [← e]
      exact hmg0
    obtain ⟨fd, hb, hF⟩ := Lw.facts (P := (PySem.Challenge.rw_longround_k14_errors_apart).prog) (w := w) KX G hmg c cx
    exact ⟨K, fd, _, KX, hb, fun H a ns hl hS => Dn.law_sp hS (hpure ns hl), hF⟩
end


namespace Q
open PySem Dn Lr L2 Ci Pu Lw
theorem classes_ok {n : Nat} (h : n < 11) (f : Str) (fs : List D) : d_l_classes [.exc n f fs] = .ok (.int 1) .non := by
  match n, h with
  | 0, _ => kernel_rfl
  | 1, _ => kernel_rfl
  | 2, _ => kernel_rfl
  | 3, _ => kernel_rfl
  | 4, _ => kernel_rfl
  | 5, _ => kernel_rfl
  | 6, _ => kernel_rfl
  | 7, _ => kernel_rfl
  | 8, _ => kernel_rfl
  | 9, _ => kernel_rfl
  | 10, _ => kernel_rfl
  | n + 11, h => omega
def itms : List D := [.int 0, .int (-1), .non, .str "a", .tup []]
theorem itms_eq {x : D} (h : x ∈ itms) : gEq x x = some (.bl true) := by
  unfold itms at h
  simp only [List.mem_cons, List.not_mem_nil, or_false] at h
  rcases h with rfl | rfl | rfl | rfl | rfl <;> kernel_rfl
abbrev iE : DE := dDisp .lst (aCons (dC (.int 0)) (aCons (dUn gNeg (dC (.int 1))) (aCons (dC .non) (aCons (dC (.str "a")) (aCons (dDisp .tup aNil) aNil)))))
abbrev mk (n : Nat) (f : Str) : DS := sSeq (sSet 1 (dMk n f (dVar 2))) (sRet (dDisp .tup (aCons (dVar 1) (aCons (dOp gEq (dUn (gXf [5, 6, 8] f) (dVar 1)) (dVar 2)) aNil))))
abbrev mkW : DS := sSeq (sSet 1 (dMk 10 "word" (dVar 2))) (sRet (dDisp .tup (aCons (dVar 1) (aCons (dOp gEq (dUn (gXf [10] "word") (dVar 1)) (dVar 2)) aNil))))
theorem one_eq : b_l_one = sSeq (sPar [2, 3] (pCons (dCallIO d_l_pick (aCons (dOwn 0) (aCons iE aNil))) (pCons (dCallIO d_l_below (aCons (dOwn 0) (aCons (dC (.int 4)) aNil))) pNil))) (sSeq (sIf (dTest (dOp gEq (dVar 3) (dC (.int 0)))) (mk 5 "index") sNil) (sSeq (sIf (dTest (dOp gEq (dVar 3) (dC (.int 1)))) (mk 6 "index") sNil) (sSeq (sIf (dTest (dOp gEq (dVar 3) (dC (.int 2)))) (mk 8 "index") sNil) mkW))) := rfl
theorem mk_ok {y : List D} {k : Nat} {x : D} {n : Nat} (hx : x ∈ itms) (hn : n = 5 ∨ n = 6 ∨ n = 8) : mk n "index" [some (.lst y), none, some x, some (.int (k : Nat))] = .rt (.val (.tup [.exc n "index" [x], .bl true])) [some (.lst y), some (.exc n "index" [x]), some x, some (.int (k : Nat))] := by
  have h1 : sSet 1 (dMk n "index" (dVar 2)) [some (.lst y), none, some x, some (.int (k : Nat))] = .nx [some (.lst y), some (.exc n "index" [x]), some x, some (.int (k : Nat))] := set_val rfl
  have h2 : dUn (gXf [5, 6, 8] "index") (dVar 1) [some (.lst y), some (.exc n "index" [x]), some x, some (.int (k : Nat))] = .ok (.val x) [some (.lst y), some (.exc n "index" [x]), some x, some (.int (k : Nat))] := by
    refine un_val (x := .val (.exc n "index" [x])) rfl rfl ?_
    rcases hn with rfl | rfl | rfl <;> rfl
  have h3 := op_val (b := dVar 2) h2 rfl rfl rfl (itms_eq hx)
  exact seq_nx h1 (ret_val (disp_l (args2 rfl h3) rfl (by simp)))
theorem mkW_ok {y : List D} {k : Nat} {x : D} (hx : x ∈ itms) : mkW [some (.lst y), none, some x, some (.int (k : Nat))] = .rt (.val (.tup [.exc 10 "word" [x], .bl true])) [some (.lst y), some (.exc 10 "word" [x]), some x, some (.int (k : Nat))] := by
  have h1 : sSet 1 (dMk 10 "word" (dVar 2)) [some (.lst y), none, some x, some (.int (k : Nat))] = .nx [some (.lst y), some (.exc 10 "word" [x]), some x, some (.int (k : Nat))] := set_val rfl
  have h2 : dUn (gXf [10] "word") (dVar 1) [some (.lst y), some (.exc 10 "word" [x]), some x, some (.int (k : Nat))] = .ok (.val x) [some (.lst y), some (.exc 10 "word" [x]), some x, some (.int (k : Nat))] := un_val (x := .val (.exc 10 "word" [x])) rfl rfl rfl
  have h3 := op_val (b := dVar 2) h2 rfl rfl rfl (itms_eq hx)
  exact seq_nx h1 (ret_val (disp_l (args2 rfl h3) rfl (by simp)))
theorem one_ok {y : List D} (h : Src (.lst y)) : ∃ (n : Nat) (f : Str) (x : D) (y' : List D), Src (.lst y') ∧ n < 11 ∧ d_l_one [.lst y] = .ok (.tup [.exc n f [x], .bl true]) (.lst y') := by
  have gi : iE [some (.lst y), none, none, none] = .ok (.val (.lst itms)) [some (.lst y), none, none, none] := rfl
  obtain ⟨r, x, y1, h1, hr, e1⟩ := pickG (env := [some (.lst y), none, none, none]) (i := 0) rfl gi rfl h (by decide) (by decide)
  have hx : x ∈ itms := List.mem_of_getElem? hr
  obtain ⟨k, y2, h2, hk, e2⟩ := drawG (env := [some (.lst y1), none, none, none]) (i := 0) (m := 4) (y0 := y1) (y := y1) (a := dC (.int 4)) rfl rfl rfl h1 (by decide) (by decide)
  have f1 : sPar [2, 3] (pCons (dCallIO d_l_pick (aCons (dOwn 0) (aCons iE aNil))) (pCons (dCallIO d_l_below (aCons (dOwn 0) (aCons (dC (.int 4)) aNil))) pNil)) [some (.lst y), none, none, none] = .nx [some (.lst y2), none, some x, some (.int (k : Nat))] := par_nx (pcons_val e1 (pcons_val e2 rfl)) rfl
  have t0 : ∀ j : Nat, dTest (dOp gEq (dVar 3) (dC (.int (j : Nat)))) [some (.lst y2), none, some x, some (.int (k : Nat))] = .ok (decide (k = j)) [some (.lst y2), none, some x, some (.int (k : Nat))] := fun j => test_op rfl rfl rfl rfl (gEq_n (a := k) (b := j))
  have fin : ∀ {n : Nat} {f : Str} {e : Dn.Env}, n < 11 → look e 0 = some (.lst y2) → b_l_one [some (.lst y), none, none, none] = .rt (.val (.tup [.exc n f [x], .bl true])) e → ∃ (n : Nat) (f : Str) (x : D) (y' : List D), Src (.lst y') ∧ n < 11 ∧ d_l_one [.lst y] = .ok (.tup [.exc n f [x], .bl true]) (.lst y') := fun {n f e} hn h0 hb => by
    refine ⟨n, f, x, y2, h2, hn, ?_⟩
    have := run_valI (n := 4) (b := b_l_one) (ds := [.lst y]) rfl hb
    rw [h0] at this
    exact this
  by_cases c0 : k = 0
  · refine fin (n := 5) (f := "index") (by decide) rfl (e := [some (.lst y2), some (.exc 5 "index" [x]), some x, some (.int (k : Nat))]) ?_
    rw [one_eq]
    refine seq_nx f1 ?_
    have := t0 0
    rw [decide_eq_true c0] at this
    have g := if_true (b := sNil) this (mk_ok (y := y2) (k := k) hx (.inl rfl))
    unfold sSeq
    rw [show (.int 0 : D) = .int ((0 : Nat) : Int) from rfl, g]
  have n0 := t0 0
  rw [decide_eq_false c0] at n0
  have g0 : sIf (dTest (dOp gEq (dVar 3) (dC (.int 0)))) (mk 5 "index") sNil [some (.lst y2), none, some x, some (.int (k : Nat))] = .nx [some (.lst y2), none, some x, some (.int (k : Nat))] := if_false n0 rfl
  by_cases c1 : k = 1
  · refine fin (n := 6) (f := "index") (by decide) rfl (e := [some (.lst y2), some (.exc 6 "index" [x]), some x, some (.int (k : Nat))]) ?_
    rw [one_eq]
    refine seq_nx f1 (seq_nx g0 ?_)
    have := t0 1
    rw [decide_eq_true c1] at this
    have g := if_true (b := sNil) this (mk_ok (y := y2) (k := k) hx (.inr (.inl rfl)))
    unfold sSeq
    rw [show (.int 1 : D) = .int ((1 : Nat) : Int) from rfl, g]
  have n1 := t0 1
  rw [decide_eq_false c1] at n1
  have g1 : sIf (dTest (dOp gEq (dVar 3) (dC (.int 1)))) (mk 6 "index") sNil [some (.lst y2), none, some x, some (.int (k : Nat))] = .nx [some (.lst y2), none, some x, some (.int (k : Nat))] := if_false n1 rfl
  by_cases c2 : k = 2
  · refine fin (n := 8) (f := "index") (by decide) rfl (e := [some (.lst y2), some (.exc 8 "index" [x]), some x, some (.int (k : Nat))]) ?_
    rw [one_eq]
    refine seq_nx f1 (seq_nx g0 (seq_nx g1 ?_))
    have := t0 2
    rw [decide_eq_true c2] at this
    have g := if_true (b := sNil) this (mk_ok (y := y2) (k := k) hx (.inr (.inr rfl)))
    unfold sSeq
    rw [show (.int 2 : D) = .int ((2 : Nat) : Int) from rfl, g]
  have n2 := t0 2
  rw [decide_eq_false c2] at n2
  have g2 : sIf (dTest (dOp gEq (dVar 3) (dC (.int 2)))) (mk 8 "index") sNil [some (.lst y2), none, some x, some (.int (k : Nat))] = .nx [some (.lst y2), none, some x, some (.int (k : Nat))] := if_false n2 rfl
  refine fin (n := 10) (f := "word") (by decide) rfl (e := [some (.lst y2), some (.exc 10 "word" [x]), some x, some (.int (k : Nat))]) ?_
  rw [one_eq]
  exact seq_nx f1 (seq_nx g0 (seq_nx g1 (seq_nx g2 (mkW_ok hx))))
abbrev fF : DS := sRet (dC (.bl false))
abbrev sA : DS := sAsg (dCallIO d_l_one (aCons (dOwn 1) aNil)) (gTp 2 (gsCons (gN 4) (gsCons (gN 5) gsNil)))
abbrev sB : DS := sIf (dOr (dNot (dTest (dVar 5))) (dOr (dTest (dOp gNe (dCall d_l_classes (aCons (dVar 4) aNil)) (dC (.int 1)))) (dNot (dTest (dUn (gIsX LX 11) (dVar 4)))))) fF sNil
abbrev sC : DS := sIf (dNot (dTest (dUn (gIsV LX) (dVar 4)))) fF sNil
abbrev body : DS := sSeq sA (sSeq sB sC)
abbrev erL : DE := dDisp .lst (aCons (dC (.exc 0 "" [])) (aCons (dC (.exc 1 "" [])) (aCons (dC (.exc 2 "" [])) (aCons (dC (.exc 3 "" [])) (aCons (dC (.exc 4 "" [])) (aCons (dC (.exc 7 "" [])) (aCons (dC (.exc 9 "" [])) aNil)))))))
abbrev ers : List D := [.exc 0 "" [], .exc 1 "" [], .exc 2 "" [], .exc 3 "" [], .exc 4 "" [], .exc 7 "" [], .exc 9 "" []]
abbrev cT : DT := dOr (dTest (dOp gNe (dCall d_l_classes (aCons (dVar 6) aNil)) (dC (.int 1)))) (dNot (dTest (dUn (gIsX LX 11) (dVar 6))))
abbrev cE : DE := dComp [6] (iAny (dVar 3)) (gN 6) cT (dVar 6)
theorem law_eq : b_law = sSeq (sSet 1 (dCallN d_l_random (aCons (dVar 0) (aCons (dC (.int 2314)) aNil)))) (sSeq (sFor (iFn range1 (aCons (dC (.int 4)) aNil)) (gN 2) body) (sSeq (sSet 3 erL) (sRet (dOp gEq cE (dDisp .lst aNil))))) := rfl
section
variable {x0 x2 x3 x4 x5 x6 : Option D} {y : List D}
abbrev E (x0 : Option D) (y : List D) (x2 x3 x4 x5 x6 : Option D) : Dn.Env := [x0, some (.lst y), x2, x3, x4, x5, x6]
theorem sub11 {n : Nat} (h : n < 11) (f : Str) (fs : List D) : gIsX LX 11 (.exc n f fs) = some (.bl true) ∧ gIsV LX (.exc n f fs) = some (.bl true) := by
  match n, h with
  | 0, _ => exact ⟨rfl, rfl⟩
  | 1, _ => exact ⟨rfl, rfl⟩
  | 2, _ => exact ⟨rfl, rfl⟩
  | 3, _ => exact ⟨rfl, rfl⟩
  | 4, _ => exact ⟨rfl, rfl⟩
  | 5, _ => exact ⟨rfl, rfl⟩
  | 6, _ => exact ⟨rfl, rfl⟩
  | 7, _ => exact ⟨rfl, rfl⟩
  | 8, _ => exact ⟨rfl, rfl⟩
  | 9, _ => exact ⟨rfl, rfl⟩
  | 10, _ => exact ⟨rfl, rfl⟩
  | n + 11, h => omega
theorem turn (h : Src (.lst y)) : ∃ (y' : List D) (w4 : Option D), Src (.lst y') ∧ body (E x0 y x2 x3 x4 x5 x6) = .nx (E x0 y' x2 x3 w4 (some (.bl true)) x6) := by
  obtain ⟨n, f, x, y1, h1, hn, e1⟩ := one_ok h
  have c1 : dCallIO d_l_one (aCons (dOwn 1) aNil) (E x0 y x2 x3 x4 x5 x6) = .ok (.val (.tup [.exc n f [x], .bl true])) (E x0 y1 x2 x3 x4 x5 x6) := callIO_ok (i := 1) (ds := []) (args1 (own_slot rfl)) rfl rfl e1
  have a1 : sA (E x0 y x2 x3 x4 x5 x6) = .nx (E x0 y1 x2 x3 (some (.exc n f [x])) (some (.bl true)) x6) := by
    unfold sA sAsg
    rw [c1]
    rfl
  have k1 : dCall d_l_classes (aCons (dVar 4) aNil) (E x0 y1 x2 x3 (some (.exc n f [x])) (some (.bl true)) x6) = .ok (.val (.int 1)) (E x0 y1 x2 x3 (some (.exc n f [x])) (some (.bl true)) x6) := call_ok (args1 rfl) rfl (classes_ok hn f [x])
  have t1 : dTest (dOp gNe (dCall d_l_classes (aCons (dVar 4) aNil)) (dC (.int 1))) (E x0 y1 x2 x3 (some (.exc n f [x])) (some (.bl true)) x6) = .ok false (E x0 y1 x2 x3 (some (.exc n f [x])) (some (.bl true)) x6) := test_op k1 rfl rfl rfl (by kernel_rfl)
  have t2 : dTest (dUn (gIsX LX 11) (dVar 4)) (E x0 y1 x2 x3 (some (.exc n f [x])) (some (.bl true)) x6) = .ok true (E x0 y1 x2 x3 (some (.exc n f [x])) (some (.bl true)) x6) := test_val (un_val (x := .val (.exc n f [x])) rfl rfl (sub11 hn f [x]).1)
  have t3 : dTest (dUn (gIsV LX) (dVar 4)) (E x0 y1 x2 x3 (some (.exc n f [x])) (some (.bl true)) x6) = .ok true (E x0 y1 x2 x3 (some (.exc n f [x])) (some (.bl true)) x6) := test_val (un_val (x := .val (.exc n f [x])) rfl rfl (sub11 hn f [x]).2)
  exact ⟨y1, _, h1, seq_nx a1 (seq_nx (if_false (or_ff (not_tt rfl) (or_ff t1 (not_tt t2))) rfl) (if_false (not_tt t3) rfl))⟩
end
theorem turns (x0 : Option D) : ∀ (xs : List D) (y : List D) (x2 x4 x5 : Option D), Src (.lst y) → ∃ y' w2 w4 w5, forL (gN 2) body xs (E x0 y x2 none x4 x5 none) = .nx (E x0 y' w2 none w4 w5 none)
  | [], y, x2, x4, x5, _ => ⟨y, x2, x4, x5, rfl⟩
  | x :: xs, y, x2, x4, x5, h => by
    obtain ⟨y', w4, s', e⟩ := turn (x0 := x0) (x2 := some x) (x3 := none) (x4 := x4) (x5 := x5) (x6 := none) h
    obtain ⟨y2, v2, v4, v5, e2⟩ := turns x0 xs y' (some x) w4 (some (.bl true)) s'
    exact ⟨y2, v2, v4, v5, forL_nx rfl e e2⟩
theorem pure14 (xs : List Int) (hl : xs.length ≤ 63) : d_law [.fls (xs.map .int)] = .ok (.bl true) .non := by
  obtain ⟨d, hd, e0⟩ := random_ok (salt := 2314) hl (by decide) (by decide)
  obtain ⟨y0, rfl⟩ := src_lst hd
  obtain ⟨y', w2, w4, w5, e3⟩ := turns (some (.fls (xs.map .int))) (tn (List.range 4)) y0 none none none hd
  have f1 : sSet 1 (dCallN d_l_random (aCons (dVar 0) (aCons (dC (.int 2314)) aNil))) [some (.fls (xs.map .int)), none, none, none, none, none, none] = .nx (E (some (.fls (xs.map .int))) y0 none none none none none) := by
    have h : dCallN d_l_random (aCons (dVar 0) (aCons (dC (.int 2314)) aNil)) [some (.fls (xs.map .int)), none, none, none, none, none, none] = .ok (.val (.lst y0)) [some (.fls (xs.map .int)), none, none, none, none, none, none] := callN_rn (args2 rfl rfl) rfl e0
    exact set_val h
  have f3 : sSet 3 erL (E (some (.fls (xs.map .int))) y' w2 none w4 w5 none) = .nx (E (some (.fls (xs.map .int))) y' w2 (some (.lst ers)) w4 w5 none) := set_val rfl
  have f4 : cE (E (some (.fls (xs.map .int))) y' w2 (some (.lst ers)) w4 w5 none) = .ok (.val (.lst [])) (E (some (.fls (xs.map .int))) y' w2 (some (.lst ers)) w4 w5 none) := by
    have h := comp_pure (i := 6) (it := iAny (dVar 3)) (t := cT) (e := dVar 6) (env := E (some (.fls (xs.map .int))) y' w2 (some (.lst ers)) w4 w5 none) ers (fun _ => false) id (any_lst rfl) (by simp) (by simp) (fun x hx => by
      refine ⟨?_, fun z => by cases z⟩
      have ok : ∃ n, n < 11 ∧ x = .exc n "" [] := by
        simp only [List.mem_cons, List.not_mem_nil, or_false] at hx
        rcases hx with rfl | rfl | rfl | rfl | rfl | rfl | rfl <;> exact ⟨_, by decide, rfl⟩
      obtain ⟨n, hn, rfl⟩ := ok
      have k1 : dCall d_l_classes (aCons (dVar 6) aNil) (E (some (.fls (xs.map .int))) y' w2 (some (.lst ers)) w4 w5 (some (.exc n "" []))) = .ok (.val (.int 1)) (E (some (.fls (xs.map .int))) y' w2 (some (.lst ers)) w4 w5 (some (.exc n "" []))) := call_ok (args1 rfl) rfl (classes_ok hn "" [])
      have t1 : dTest (dOp gNe (dCall d_l_classes (aCons (dVar 6) aNil)) (dC (.int 1))) (E (some (.fls (xs.map .int))) y' w2 (some (.lst ers)) w4 w5 (some (.exc n "" []))) = .ok false (E (some (.fls (xs.map .int))) y' w2 (some (.lst ers)) w4 w5 (some (.exc n "" []))) := test_op k1 rfl rfl rfl (by kernel_rfl)
      have t2 : dTest (dUn (gIsX LX 11) (dVar 6)) (E (some (.fls (xs.map .int))) y' w2 (some (.lst ers)) w4 w5 (some (.exc n "" []))) = .ok true (E (some (.fls (xs.map .int))) y' w2 (some (.lst ers)) w4 w5 (some (.exc n "" []))) := test_val (un_val (x := .val (.exc n "" [])) rfl rfl (sub11 hn "" []).1)
      exact or_ff t1 (not_tt t2))
    exact h
  have f5 : dOp gEq cE (dDisp .lst aNil) (E (some (.fls (xs.map .int))) y' w2 (some (.lst ers)) w4 w5 none) = .ok (.val (.bl true)) (E (some (.fls (xs.map .int))) y' w2 (some (.lst ers)) w4 w5 none) := op_val (b := dDisp .lst aNil) (y := .val (.lst [])) f4 rfl rfl rfl (by kernel_rfl)
  refine run_val (b := b_law) (env := [some (.fls (xs.map .int)), none, none, none, none, none, none]) (e := E (some (.fls (xs.map .int))) y' w2 (some (.lst ers)) w4 w5 none) rfl ?_
  rw [law_eq]
  exact seq_nx f1 (seq_nx (for_nx (fn_range1 (x := 4) rfl (by omega)) e3) (seq_nx f3 (ret_val f5)))
end Q
theorem PySem.Challenge.cw_longround_k14_errors_apart_holds : PySem.Challenge.rw_longround_k14_errors_apart.Holds := by
  exact Lw.walks Q.pure14
