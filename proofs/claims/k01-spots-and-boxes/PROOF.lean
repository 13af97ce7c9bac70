import PyProof.Rows.All
import Wide.All
import OpenK.AllK
import Wide.FinOn
import HandS.ForMost
import HandS.IsInst
import HandS.Deep
import HandS.Style
import HandS.Wide
import KE.SortData
import PyProof.ReprReads
import HandS.TupAny
import HandS.Codes
import PyProof.Ascii
import HandS.Small
import KE.KDictDisplayH
import PySem.Challenge.RW_landsentered_k01_spots_and_boxes
set_option Elab.async false
set_option linter.all false
set_option maxRecDepth 100000
set_option autoImplicit false
/-! L3A: data held by the tracked heap, slots by ownership, frames. -/
namespace L3
open PySem PySem.Spec PyProof.Rows L2

/-- a dict's key as data -/
def keyD : Key → PyData
  | .inl i => .int i
  | .inr x => .str x

mutual
/-- v stands for the datum d, within F -/
inductive Rp (K : PySem.W.Frag) (F : Hp) : V → PyData → Prop
  | non : Rp K F .non .none
  | bl (b : Bool) : Rp K F (.bl b) (.bool b)
  | int (i : Int) : Rp K F (.int i) (.int i)
  | str (x : Str) : Rp K F (.str x) (.str x)
  | lst {a : Addr} {xs : List V} {ds : List PyData} : SqL K F a xs → RpAll K F xs ds → Rp K F (.ref a) (.list ds)
  | tup {a : Addr} {xs : List V} {ds : List PyData} : F a = some (.tup xs) → RpAll K F xs ds → Rp K F (.ref a) (.tuple ds)
  | dK {a : Addr} {kvs : List (Key × V)} {ds : List PyData} : F a = some (.dK kvs) → RpAll K F (kvs.map (·.2)) ds → Rp K F (.ref a) (.dict ((kvs.map fun p => keyD p.1).zip ds))
  | dT {a : Addr} {kvs : List (List Key × V)} {ds : List PyData} : F a = some (.dT kvs) → kvs ≠ [] → RpAll K F (kvs.map (·.2)) ds → Rp K F (.ref a) (.dict ((kvs.map fun p => PyData.tuple (p.1.map keyD)).zip ds))
inductive RpAll (K : PySem.W.Frag) (F : Hp) : List V → List PyData → Prop
  | nil : RpAll K F [] []
  | cons {v : V} {vs : List V} {d : PyData} {ds : List PyData} : Rp K F v d → RpAll K F vs ds → RpAll K F (v :: vs) (d :: ds)
end

theorem sqt_mono {K : PySem.W.Frag} {F F' : Hp} {a : Addr} {xs : List V} (e : Same F F') (h : SqT K F a xs) : SqT K F' a xs := by
  rcases h with (h | ⟨o, h⟩) | h
  · exact .inl (.inl (e _ _ h))
  · exact .inl (.inr ⟨o, e _ _ h⟩)
  · exact .inr h
theorem sql_mono {K : PySem.W.Frag} {F F' : Hp} {a : Addr} {xs : List V} (e : Same F F') (h : SqL K F a xs) : SqL K F' a xs := e.seq h

section
variable {K : PySem.W.Frag} {F F' : Hp}
mutual
theorem Rp.mono (e : Same F F') : ∀ {d : PyData} {v : V}, Rp K F v d → Rp K F' v d
  | _, _, .non => .non
  | _, _, .bl b => .bl b
  | _, _, .int i => .int i
  | _, _, .str x => .str x
  | _, _, .lst h t => .lst (sql_mono e h) (RpAll.mono e t)
  | _, _, .tup h t => .tup (e _ _ h) (RpAll.mono e t)
  | _, _, .dK h t => .dK (e _ _ h) (RpAll.mono e t)
  | _, _, .dT h n t => .dT (e _ _ h) n (RpAll.mono e t)
theorem RpAll.mono (e : Same F F') : ∀ {ds : List PyData} {vs : List V}, RpAll K F vs ds → RpAll K F' vs ds
  | _, _, .nil => .nil
  | _, _, .cons h t => .cons (Rp.mono e h) (RpAll.mono e t)
end

theorem RpAll.length : ∀ {vs : List V} {ds : List PyData}, RpAll K F vs ds → vs.length = ds.length
  | _, _, .nil => rfl
  | _, _, .cons _ t => congrArg (· + 1) t.length
theorem RpAll.append : ∀ {vs ws : List V} {ds es : List PyData}, RpAll K F vs ds → RpAll K F ws es → RpAll K F (vs ++ ws) (ds ++ es)
  | _, _, _, _, .nil, h => h
  | _, _, _, _, .cons h t, h' => .cons h (t.append h')
theorem RpAll.get : ∀ {vs : List V} {ds : List PyData} {i : Nat} {d : PyData}, RpAll K F vs ds → ds[i]? = some d → ∃ v, vs[i]? = some v ∧ Rp K F v d
  | _, _, _, _, .nil, e => by simp at e
  | _, _, 0, _, .cons h _, e => by simp at e; subst e; exact ⟨_, rfl, h⟩
  | _, _, i + 1, _, .cons _ t, e => by
    obtain ⟨v, h1, h2⟩ := t.get (i := i) (by simpa using e)
    exact ⟨v, by simpa using h1, h2⟩
theorem RpAll.getV : ∀ {vs : List V} {ds : List PyData} {i : Nat} {v : V}, RpAll K F vs ds → vs[i]? = some v → ∃ d, ds[i]? = some d ∧ Rp K F v d
  | _, _, _, _, .nil, e => by simp at e
  | _, _, 0, _, .cons h _, e => by simp at e; subst e; exact ⟨_, rfl, h⟩
  | _, _, i + 1, _, .cons _ t, e => by
    obtain ⟨v, h1, h2⟩ := t.getV (i := i) (by simpa using e)
    exact ⟨v, by simpa using h1, h2⟩
theorem RpAll.take : ∀ {vs : List V} {ds : List PyData} (n : Nat), RpAll K F vs ds → RpAll K F (vs.take n) (ds.take n)
  | _, _, 0, _ => .nil
  | _, _, _ + 1, .nil => .nil
  | _, _, n + 1, .cons h t => .cons h (t.take n)
theorem RpAll.drop : ∀ {vs : List V} {ds : List PyData} (n : Nat), RpAll K F vs ds → RpAll K F (vs.drop n) (ds.drop n)
  | _, _, 0, h => h
  | _, _, _ + 1, .nil => .nil
  | _, _, n + 1, .cons _ t => t.drop n
theorem RpAll.set : ∀ {vs : List V} {ds : List PyData} (n : Nat) {v : V} {d : PyData}, RpAll K F vs ds → Rp K F v d → RpAll K F (vs.set n v) (ds.set n d)
  | _, _, _, _, _, .nil, _ => .nil
  | _, _, 0, _, _, .cons _ t, q => .cons q t
  | _, _, n + 1, _, _, .cons h t, q => .cons h (t.set n q)
theorem RpAll.reverse : ∀ {vs : List V} {ds : List PyData}, RpAll K F vs ds → RpAll K F vs.reverse ds.reverse
  | _, _, .nil => .nil
  | _, _, .cons h t => by
    rw [List.reverse_cons, List.reverse_cons]
    exact (t.reverse).append (.cons h .nil)
theorem RpAll.eraseIdx : ∀ {vs : List V} {ds : List PyData} (n : Nat), RpAll K F vs ds → RpAll K F (vs.eraseIdx n) (ds.eraseIdx n)
  | _, _, _, .nil => .nil
  | _, _, 0, .cons _ t => t
  | _, _, n + 1, .cons h t => .cons h (t.eraseIdx n)
end

/-! ### what owned things hold -/
/-- an owned root at a: its content lies within F -/
def OwnC (K : PySem.W.Frag) (F H : Hp) (a : Addr) : PyData → Prop
  | .list ds => ∃ xs, H a = some (.lst xs) ∧ RpAll K F xs ds
  | .dict kvs => (∃ (ks : List (Key × V)) (ds : List PyData), H a = some (.dK ks) ∧ RpAll K F (ks.map (·.2)) ds ∧ kvs = (ks.map fun p => keyD p.1).zip ds) ∨
      ∃ (ks : List (List Key × V)) (ds : List PyData), H a = some (.dT ks) ∧ RpAll K F (ks.map (·.2)) ds ∧ ks ≠ [] ∧ kvs = (ks.map fun p => PyData.tuple (p.1.map keyD)).zip ds
  | _ => False
theorem OwnC.there {K : PySem.W.Frag} {F H : Hp} {a : Addr} {d : PyData} (h : OwnC K F H a d) : ∃ o, H a = some o := by
  cases d with
  | list ds => obtain ⟨xs, e, _⟩ := h; exact ⟨_, e⟩
  | dict kvs =>
    rcases h with ⟨_, _, e, _⟩ | ⟨_, _, e, _⟩
    · exact ⟨_, e⟩
    · exact ⟨_, e⟩
  | _ => exact h.elim
theorem OwnC.keep {K : PySem.W.Frag} {F H F' H' : Hp} {a : Addr} {d : PyData} (h : OwnC K F H a d) (e : Same F F') (k : ∀ o, H a = some o → H' a = some o) : OwnC K F' H' a d := by
  cases d with
  | list ds => obtain ⟨xs, q, r⟩ := h; exact ⟨xs, k _ q, r.mono e⟩
  | dict kvs =>
    rcases h with ⟨ks, ds, q, r, z⟩ | ⟨ks, ds, q, r, n, z⟩
    · exact .inl ⟨ks, ds, k _ q, r.mono e, z⟩
    · exact .inr ⟨ks, ds, k _ q, r.mono e, n, z⟩
  | _ => exact h.elim
/-- the root belongs to H, what is within to F -/
theorem OwnC.rp {K : PySem.W.Frag} {F H : Hp} {a : Addr} {d : PyData} (h : OwnC K F H a d) (e : Same F H) : Rp K H (.ref a) d := by
  cases d with
  | list ds => obtain ⟨xs, q, r⟩ := h; exact .lst (SqL.of q) (r.mono e)
  | dict kvs =>
    rcases h with ⟨ks, ds, q, r, z⟩ | ⟨ks, ds, q, r, n, z⟩
    · subst z; exact .dK q (r.mono e)
    · subst z; exact .dT q n (r.mono e)
  | _ => exact h.elim

/-- v stands for d: its root in H, what is within in F -/
def Rk (K : PySem.W.Frag) (F H : Hp) (v : V) (d : PyData) : Prop := Rp K F v d ∨ ∃ a, v = .ref a ∧ OwnC K F H a d
theorem Rk.rp {K : PySem.W.Frag} {F H : Hp} {v : V} {d : PyData} (h : Rk K F H v d) (e : Same F H) : Rp K H v d := by
  rcases h with h | ⟨a, rfl, h⟩
  · exact h.mono e
  · exact h.rp e
theorem Rk.lst {K : PySem.W.Frag} {F H : Hp} {v : V} {ds : List PyData} (h : Rk K F H v (.list ds)) (e : Same F H) : ∃ a xs, v = .ref a ∧ SqL K H a xs ∧ RpAll K F xs ds := by
  rcases h with h | ⟨a, rfl, xs, q, r⟩
  · cases h with
    | lst q r => exact ⟨_, _, rfl, sql_mono e q, r⟩
  · exact ⟨a, xs, rfl, SqL.of q, r⟩
theorem Rk.tup {K : PySem.W.Frag} {F H : Hp} {v : V} {ds : List PyData} (h : Rk K F H v (.tuple ds)) (e : Same F H) : ∃ a xs, v = .ref a ∧ SqT K H a xs ∧ RpAll K F xs ds := by
  rcases h with h | ⟨a, rfl, q⟩
  · cases h with
    | tup q r => exact ⟨_, _, rfl, SqT.of (e _ _ q), r⟩
  · exact q.elim
theorem Rk.int {K : PySem.W.Frag} {F H : Hp} {v : V} {i : Int} (h : Rk K F H v (.int i)) : v = .int i := by
  rcases h with h | ⟨a, rfl, q⟩
  · cases h; rfl
  · exact q.elim
theorem Rk.bl {K : PySem.W.Frag} {F H : Hp} {v : V} {i : Bool} (h : Rk K F H v (.bool i)) : v = .bl i := by
  rcases h with h | ⟨a, rfl, q⟩
  · cases h; rfl
  · exact q.elim
theorem Rk.str {K : PySem.W.Frag} {F H : Hp} {v : V} {i : Str} (h : Rk K F H v (.str i)) : v = .str i := by
  rcases h with h | ⟨a, rfl, q⟩
  · cases h; rfl
  · exact q.elim
theorem Rk.non {K : PySem.W.Frag} {F H : Hp} {v : V} (h : Rk K F H v .none) : v = .non := by
  rcases h with h | ⟨a, rfl, q⟩
  · cases h; rfl
  · exact q.elim

/-! ### slots -/
inductive SV where
  | unb
  /-- frozen data -/
  | fz (d : PyData)
  /-- an owned list or dict -/
  | own (d : PyData)
  /-- a caller's owned one, handed in: the slot stays bound to it -/
  | ref (d : PyData)
  /-- .. that was frozen -/
  | rfz (d : PyData)
abbrev MEnv := List SV
def SV.isOwn : SV → Option PyData
  | .own d => some d
  | .ref d => some d
  | _ => none
def SV.lock : SV → Bool
  | .ref _ => true
  | .rfz _ => true
  | _ => false
/-- what a slot shows -/
def SV.view : SV → Option PyData
  | .unb => none
  | .fz d => some d
  | .own d => some d
  | .ref d => some d
  | .rfz d => some d
/-- .. frozen -/
def SV.freeze : SV → SV
  | .own d => .fz d
  | .ref d => .rfz d
  | x => x
/-- .. with other content -/
def SV.put (d : PyData) : SV → SV
  | .own _ => .own d
  | .ref _ => .ref d
  | x => x
def SV.ok (K : PySem.W.Frag) (F H : Hp) (x : Option (Option V)) : SV → Prop
  | .unb => True
  | .fz d => ∃ v, x = some (some v) ∧ Rp K F v d
  | .rfz d => ∃ v, x = some (some v) ∧ Rp K F v d
  | .own d => ∃ a, x = some (some (.ref a)) ∧ F a = none ∧ OwnC K F H a d
  | .ref d => ∃ a, x = some (some (.ref a)) ∧ F a = none ∧ OwnC K F H a d
/-- the slot i owns the root at a -/
def OwnsAt (σ : L2.St) (env : MEnv) (i : Nat) (a : Addr) : Prop := ∃ x d, env[i]? = some x ∧ x.isOwn = some d ∧ σ[i]? = some (some (.ref a))
def Owns (σ : L2.St) (env : MEnv) (a : Addr) : Prop := ∃ i, OwnsAt σ env i a
/-- a slot of the def's own does -/
def OwnsU (σ : L2.St) (env : MEnv) (a : Addr) : Prop := ∃ (i : Nat) (d : PyData), env[i]? = some (.own d) ∧ σ[i]? = some (some (.ref a))

structure Abs (K : PySem.W.Frag) (F H : Hp) (σ : L2.St) (env : MEnv) : Prop where
  same : Same F H
  len : σ.length = env.length
  slot : ∀ (i : Nat) (x : SV), env[i]? = some x → x.ok K F H (σ[i]?)
  inj : ∀ (i j : Nat) (a : Addr), OwnsAt σ env i a → OwnsAt σ env j a → i = j
theorem Abs.own {K : PySem.W.Frag} {F H : Hp} {σ : L2.St} {env : MEnv} (A : Abs K F H σ env) {i : Nat} {a : Addr} {x : SV} {d : PyData} (e : env[i]? = some x) (o : x.isOwn = some d) :
    ∃ a, σ[i]? = some (some (.ref a)) ∧ F a = none ∧ OwnC K F H a d := by
  have h := A.slot i x e
  cases x with
  | own d' => cases o; exact h
  | ref d' => cases o; exact h
  | _ => cases o
theorem Abs.ownsF {K : PySem.W.Frag} {F H : Hp} {σ : L2.St} {env : MEnv} (A : Abs K F H σ env) {a : Addr} (h : Owns σ env a) : F a = none ∧ ∃ o, H a = some o := by
  obtain ⟨i, x, d, e, o, q⟩ := h
  obtain ⟨b, e1, e2, e3⟩ := A.own (a := a) e o
  rw [q] at e1
  cases e1
  exact ⟨e2, e3.there⟩
/-- a slot's view -/
theorem Abs.view {K : PySem.W.Frag} {F H : Hp} {σ : L2.St} {env : MEnv} (A : Abs K F H σ env) {i : Nat} {x : SV} {d : PyData} (e : env[i]? = some x) (o : x.view = some d) :
    ∃ v, σ[i]? = some (some v) ∧ Rk K F H v d := by
  have h := A.slot i x e
  cases x with
  | unb => cases o
  | fz d' => cases o; obtain ⟨v, q, r⟩ := h; exact ⟨v, q, .inl r⟩
  | rfz d' => cases o; obtain ⟨v, q, r⟩ := h; exact ⟨v, q, .inl r⟩
  | own d' => cases o; obtain ⟨a, q, _, r⟩ := h; exact ⟨.ref a, q, .inr ⟨a, rfl, r⟩⟩
  | ref d' => cases o; obtain ⟨a, q, _, r⟩ := h; exact ⟨.ref a, q, .inr ⟨a, rfl, r⟩⟩

/-- from one state to a later one: what was frozen stays, what was tracked and not owned stays -/
structure Frm (F H : Hp) (σ : L2.St) (env : MEnv) (F' H' : Hp) (σ' : L2.St) (env' : MEnv) : Prop where
  sameF : Same F F'
  keep : ∀ a o, H a = some o → ¬ Owns σ env a → H' a = some o
  there : ∀ a o, H a = some o → ∃ o', H' a = some o'
  new : ∀ a o, F' a = some o → F a = some o ∨ H a = none ∨ Owns σ env a
  own : ∀ a, Owns σ' env' a → Owns σ env a ∨ H a = none
  ownU : ∀ a, OwnsU σ' env' a → OwnsU σ env a ∨ H a = none
  lock : ∀ (i : Nat) (x : SV), env[i]? = some x → x.lock = true → σ'[i]? = σ[i]? ∧ ∃ x', env'[i]? = some x' ∧ x'.lock = true
  len : env'.length = env.length
section
variable {K : PySem.W.Frag} {F H F1 H1 F2 H2 : Hp} {σ σ1 σ2 : L2.St} {env env1 env2 : MEnv}
theorem Frm.refl (F H : Hp) (σ : L2.St) (env : MEnv) : Frm F H σ env F H σ env :=
  ⟨Same.refl _, fun _ _ h _ => h, fun _ o h => ⟨o, h⟩, fun _ _ h => .inl h, fun _ h => .inl h, fun _ h => .inl h, fun i x e l => ⟨rfl, x, e, l⟩, rfl⟩
theorem Frm.trans (p : Frm F H σ env F1 H1 σ1 env1) (q : Frm F1 H1 σ1 env1 F2 H2 σ2 env2) : Frm F H σ env F2 H2 σ2 env2 where
  sameF := p.sameF.trans q.sameF
  keep := fun a o h n => by
    refine q.keep a o (p.keep a o h n) fun z => ?_
    rcases p.own a z with z | z
    · exact n z
    · rw [h] at z; cases z
  there := fun a o h => by
    obtain ⟨o1, h1⟩ := p.there a o h
    exact q.there a o1 h1
  new := fun a o h => by
    rcases q.new a o h with z | z | z
    · exact p.new a o z
    · refine .inr (.inl ?_)
      cases e : H a with
      | none => rfl
      | some u =>
        obtain ⟨o1, h1⟩ := p.there a u e
        rw [z] at h1; cases h1
    · rcases p.own a z with z | z
      · exact .inr (.inr z)
      · exact .inr (.inl z)
  own := fun a h => by
    rcases q.own a h with z | z
    · exact p.own a z
    · refine .inr ?_
      cases e : H a with
      | none => rfl
      | some u =>
        obtain ⟨o1, h1⟩ := p.there a u e
        rw [z] at h1; cases h1
  ownU := fun a h => by
    rcases q.ownU a h with z | z
    · exact p.ownU a z
    · refine .inr ?_
      cases e : H a with
      | none => rfl
      | some u =>
        obtain ⟨o1, h1⟩ := p.there a u e
        rw [z] at h1; cases h1
  lock := fun i x e l => by
    obtain ⟨e1, x1, q1, l1⟩ := p.lock i x e l
    obtain ⟨e2, x2, q2, l2⟩ := q.lock i x1 q1 l1
    exact ⟨e2.trans e1, x2, q2, l2⟩
  len := q.len.trans p.len
end

/-! ### results -/
inductive RV where
  | fz (d : PyData)
  | own (d : PyData)
  /-- what the i-th slot is bound to -/
  | plc (i : Nat)
def RV.view (env : MEnv) : RV → Option PyData
  | .fz d => some d
  | .own d => some d
  | .plc i => (env[i]?).bind SV.view
def RV.ok (K : PySem.W.Frag) (F H : Hp) (σ : L2.St) (env : MEnv) (v : V) : RV → Prop
  | .fz d => Rp K F v d
  | .own d => ∃ a, v = .ref a ∧ F a = none ∧ OwnC K F H a d ∧ ¬ Owns σ env a
  | .plc i => σ[i]? = some (some v)
/-- what is owned is new -/
def RV.isNew (H : Hp) (v : V) : RV → Prop
  | .own _ => ∃ a, v = .ref a ∧ H a = none
  | _ => True
section
variable {K : PySem.W.Frag} {F H F1 H1 : Hp} {σ : L2.St} {env env1 : MEnv} {v : V} {r : RV}
theorem RV.ok.keep (h : r.ok K F H σ env v) (f : Frm F H σ env F1 H1 σ env1) : r.ok K F1 H1 σ env1 v := by
  cases r with
  | fz d => exact Rp.mono f.sameF h
  | own d =>
    obtain ⟨a, e, e1, e2, e3⟩ := h
    obtain ⟨o, ho⟩ := e2.there
    refine ⟨a, e, ?_, e2.keep f.sameF fun o h => f.keep a o h e3, fun z => ?_⟩
    · cases q : F1 a with
      | none => rfl
      | some u =>
        rcases f.new a u q with z | z | z
        · rw [e1] at z; cases z
        · rw [ho] at z; cases z
        · exact (e3 z).elim
    · rcases f.own a z with z | z
      · exact e3 z
      · rw [ho] at z; cases z
  | plc i => exact h
theorem RV.isNew.back (h : r.isNew H1 v) (f : Frm F H σ env F1 H1 σ env1) : r.isNew H v := by
  cases r with
  | fz d => trivial
  | plc i => trivial
  | own d =>
    obtain ⟨a, e, n⟩ := h
    refine ⟨a, e, ?_⟩
    cases q : H a with
    | none => rfl
    | some u =>
      obtain ⟨o, h1⟩ := f.there a u q
      rw [n] at h1; cases h1
theorem RV.ok.rk (h : r.ok K F H σ env v) (A : Abs K F H σ env) {d : PyData} (e : r.view env = some d) : Rk K F H v d := by
  cases r with
  | fz d' => cases e; exact .inl h
  | own d' => cases e; obtain ⟨a, e0, _, e2, _⟩ := h; exact .inr ⟨a, e0, e2⟩
  | plc i =>
    have e' : (env[i]?).bind SV.view = some d := e
    cases q : env[i]? with
    | none => rw [q] at e'; cases e'
    | some x =>
      rw [q] at e'
      obtain ⟨u, e1, e2⟩ := A.view q e'
      have h' : σ[i]? = some (some v) := h
      rw [h'] at e1
      cases e1
      exact e2
end
end L3

/-! L3B: expressions over slots of data: what they give, and that the text has it. -/
namespace L3
open PySem PySem.Spec PyProof.Rows L2

abbrev ME := MEnv → Option (MEnv × RV)
abbrev MA := MEnv → Option (MEnv × List RV)
abbrev MT := MEnv → Option (MEnv × Bool)

/-! ### readings -/
def tE (K : PySem.W.Frag) (m : ME) : TE := fun σ H Q => ∃ F env, Abs K F H σ env ∧ ∃ env' r, m env = some (env', r) ∧
  ∀ v F' H', Abs K F' H' σ env' → Frm F H σ env F' H' σ env' → r.ok K F' H' σ env' v → r.isNew H v → Q v H'
def tT (K : PySem.W.Frag) (m : MT) : TT := fun σ H Q => ∃ F env, Abs K F H σ env ∧ ∃ env' b, m env = some (env', b) ∧
  ∀ F' H', Abs K F' H' σ env' → Frm F H σ env F' H' σ env' → Q b H'
/-- the owned ones among some values -/
def ownVs : List V → List RV → List V
  | v :: vs, .own _ :: rs => v :: ownVs vs rs
  | _ :: vs, _ :: rs => ownVs vs rs
  | _, _ => []
def rvsOk (K : PySem.W.Frag) (F H : Hp) (σ : L2.St) (env : MEnv) : List V → List RV → Prop
  | [], [] => True
  | v :: vs, r :: rs => r.ok K F H σ env v ∧ rvsOk K F H σ env vs rs ∧ ((∃ d, r = .own d) → v ∉ ownVs vs rs)
  | _, _ => False
def rvsNew (H : Hp) (vs : List V) (rs : List RV) : Prop := ∀ v ∈ ownVs vs rs, ∃ a, v = .ref a ∧ H a = none
def tAs (K : PySem.W.Frag) (m : MA) : TA := fun σ H Q => ∃ F env, Abs K F H σ env ∧ ∃ env' rs, m env = some (env', rs) ∧
  ∀ vs F' H', Abs K F' H' σ env' → Frm F H σ env F' H' σ env' → rvsOk K F' H' σ env' vs rs → rvsNew H vs rs → Q vs H'

theorem pe_imp {X : Cx} {e : Expr} {t t' : TE} (h : PE X e t) (i : ∀ σ H Q, t' σ H Q → t σ H Q) : PE X e t' := ⟨fun pins s σ H Q I q => h.run pins s σ H Q I (i σ H Q q)⟩
theorem pt_imp {X : Cx} {e : Expr} {t t' : TT} (h : PT X e t) (i : ∀ σ H Q, t' σ H Q → t σ H Q) : PT X e t' := ⟨fun pins s σ H Q I q => h.run pins s σ H Q I (i σ H Q q)⟩
theorem pa_imp {X : Cx} {es : List Expr} {t t' : TA} (h : PA X es t) (i : ∀ σ H Q, t' σ H Q → t σ H Q) : PA X es t' := ⟨fun pos pins s σ H Q I q => h.run pos pins s σ H Q I (i σ H Q q)⟩

section
variable {K : PySem.W.Frag} {F H F1 H1 F' H' : Hp} {σ : L2.St} {env env1 : MEnv}
theorem rvsOk.length : ∀ {vs : List V} {rs : List RV}, rvsOk K F H σ env vs rs → vs.length = rs.length
  | [], [], _ => rfl
  | _ :: _, _ :: _, h => congrArg (· + 1) (rvsOk.length h.2.1)
  | [], _ :: _, h => h.elim
  | _ :: _, [], h => h.elim
theorem rvsOk.keep (f : Frm F H σ env F1 H1 σ env1) : ∀ {vs : List V} {rs : List RV}, rvsOk K F H σ env vs rs → rvsOk K F1 H1 σ env1 vs rs
  | [], [], _ => trivial
  | _ :: _, _ :: _, h => ⟨RV.ok.keep h.1 f, rvsOk.keep f h.2.1, h.2.2⟩
  | [], _ :: _, h => h.elim
  | _ :: _, [], h => h.elim
theorem rvsNew.back {vs : List V} {rs : List RV} (h : rvsNew H1 vs rs) (f : Frm F H σ env F1 H1 σ env1) : rvsNew H vs rs := fun v hv => by
  obtain ⟨a, e, n⟩ := h v hv
  refine ⟨a, e, ?_⟩
  cases q : H a with
  | none => rfl
  | some u =>
    obtain ⟨o, h1⟩ := f.there a u q
    rw [n] at h1; cases h1
/-- new things are laid, nothing else changes -/
theorem grow (A : Abs K F H σ env) (sF : Same F F') (sH : Same H H') (s' : Same F' H') (nw : ∀ a o, F' a = some o → F a = some o ∨ H a = none) :
    Abs K F' H' σ env ∧ Frm F H σ env F' H' σ env := by
  have free : ∀ a, F a = none → (∃ o, H a = some o) → F' a = none := fun a e ⟨o, ho⟩ => by
    cases q : F' a with
    | none => rfl
    | some u =>
      rcases nw a u q with z | z
      · rw [e] at z; cases z
      · rw [ho] at z; cases z
  refine ⟨⟨s', A.len, fun i x e => ?_, A.inj⟩, ⟨sF, fun a o h _ => sH a o h, fun a o h => ⟨o, sH a o h⟩, fun a o h => (nw a o h).elim .inl fun z => .inr (.inl z), fun a h => .inl h, fun a h => .inl h, fun i x e l => ⟨rfl, x, e, l⟩, rfl⟩⟩
  have h := A.slot i x e
  cases x with
  | unb => trivial
  | fz d => obtain ⟨v, q, r⟩ := h; exact ⟨v, q, r.mono sF⟩
  | rfz d => obtain ⟨v, q, r⟩ := h; exact ⟨v, q, r.mono sF⟩
  | own d => obtain ⟨a, q, f, r⟩ := h; exact ⟨a, q, free a f r.there, r.keep sF fun o z => sH a o z⟩
  | ref d => obtain ⟨a, q, f, r⟩ := h; exact ⟨a, q, free a f r.there, r.keep sF fun o z => sH a o z⟩
end

/-- an operation gives r (it may lay new things) -/
def Gives (K : PySem.W.Frag) (F H : Hp) (Q : VK) (r : RV) : Prop :=
  ∀ v F' H', Same F F' → Same H H' → Same F' H' → (∀ a o, F' a = some o → F a = some o ∨ H a = none) →
    (match r with
      | .fz d => Rp K F' v d
      | .own d => ∃ a, v = .ref a ∧ H a = none ∧ F' a = none ∧ OwnC K F' H' a d
      | .plc _ => False) → Q v H'
theorem Gives.flat {K : PySem.W.Frag} {F H : Hp} {Q : VK} {d : PyData} {v : V} (e : Same F H) (g : Gives K F H Q (.fz d)) (h : Rp K F v d) : Q v H :=
  g v F H (Same.refl _) (Same.refl _) e (fun _ _ h => .inl h) h
theorem Gives.newList {K : PySem.W.Frag} {F H : Hp} {Q : VK} {ds : List PyData} {xs : List V} {p : Addr} (e : Same F H) (g : Gives K F H Q (.own (.list ds))) (h : RpAll K F xs ds) (hp : H p = none) : Q (.ref p) (upd H p (.lst xs)) := by
  have sH : Same H (upd H p (.lst xs)) := fun b o q => by rw [upd_ne (ne_of_none q hp)]; exact q
  exact g (.ref p) F _ (Same.refl _) sH (e.trans sH) (fun _ _ h => .inl h) ⟨p, rfl, hp, e.free hp, xs, upd_same, h⟩
theorem Gives.newTup {K : PySem.W.Frag} {F H : Hp} {Q : VK} {ds : List PyData} {xs : List V} {p : Addr} (e : Same F H) (g : Gives K F H Q (.fz (.tuple ds))) (h : RpAll K F xs ds) (hp : H p = none) : Q (.ref p) (upd H p (.tup xs)) := by
  have sH : Same H (upd H p (.tup xs)) := fun b o q => by rw [upd_ne (ne_of_none q hp)]; exact q
  have sF : Same F (upd F p (.tup xs)) := fun b o q => by rw [upd_ne (ne_of_none q (e.free hp))]; exact q
  refine g (.ref p) (upd F p (.tup xs)) _ sF sH (fun b o q => ?_) (fun b o q => ?_) (.tup upd_same (h.mono sF))
  · by_cases hb : b = p
    · subst hb; rw [upd_same] at q ⊢; exact q
    · rw [upd_ne hb] at q; exact sH b o (e b o q)
  · by_cases hb : b = p
    · subst hb; exact .inr hp
    · rw [upd_ne hb] at q; exact .inl q
/-- from a state: the continuation of a reading takes what is given -/
theorem gives_to {K : PySem.W.Frag} {F0 H0 F H : Hp} {σ : L2.St} {env0 env : MEnv} {Q : VK} {r : RV} (A : Abs K F H σ env) (f : Frm F0 H0 σ env0 F H σ env)
    (k : ∀ v F' H', Abs K F' H' σ env → Frm F0 H0 σ env0 F' H' σ env → r.ok K F' H' σ env v → r.isNew H0 v → Q v H') : Gives K F H Q r := by
  intro v F' H' sF sH s' nw res
  obtain ⟨A', f'⟩ := grow A sF sH s' nw
  cases r with
  | fz d => exact k v F' H' A' (f.trans f') res trivial
  | own d =>
    obtain ⟨a, e, ha, fa, oc⟩ := res
    have hn : ¬ Owns σ env a := fun z => by
      obtain ⟨_, o, ho⟩ := A.ownsF z
      rw [ha] at ho; cases ho
    refine k v F' H' A' (f.trans f') ⟨a, e, fa, oc, hn⟩ ⟨a, e, ?_⟩
    cases q : H0 a with
    | none => rfl
    | some u =>
      obtain ⟨o, h1⟩ := f.there a u q
      rw [ha] at h1; cases h1
  | plc i => exact res.elim

/-! ### names, constants -/
def eSlot (i : Nat) : ME := fun env => match env[i]? with
  | some (.fz d) => some (env, .fz d)
  | some (.rfz d) => some (env, .fz d)
  | some (.own _) => some (env, .plc i)
  | some (.ref _) => some (env, .plc i)
  | _ => none
def eLit (d : PyData) : ME := fun env => some (env, .fz d)
section
variable {X : Cx}
theorem re_slot {i : Nat} {e : Expr} (h : PE X e (tVar i)) : PE X e (tE X.K (eSlot i)) := by
  refine pe_imp h fun σ H Q ⟨F, env, A, env', r, em, k⟩ => ?_
  unfold eSlot at em
  have fin : ∀ x d, env[i]? = some x → x.view = some d → env' = env → (∀ v, σ[i]? = some (some v) → Rk X.K F H v d → r.ok X.K F H σ env v ∧ r.isNew H v) → tVar i σ H Q := fun x d e o ee kk => by
    obtain ⟨v, e1, e2⟩ := A.view e o
    obtain ⟨k1, k2⟩ := kk v e1 e2
    subst ee
    exact ⟨v, e1, k v F H A (Frm.refl _ _ _ _) k1 k2⟩
  split at em
  · rename_i d e
    cases em
    refine fin (.fz d) d e rfl rfl fun v e1 _ => ?_
    obtain ⟨u, q, r⟩ := A.slot i _ e
    rw [e1] at q; cases q
    exact ⟨r, trivial⟩
  · rename_i d e
    cases em
    refine fin (.rfz d) d e rfl rfl fun v e1 _ => ?_
    obtain ⟨u, q, r⟩ := A.slot i _ e
    rw [e1] at q; cases q
    exact ⟨r, trivial⟩
  · rename_i d e
    cases em
    exact fin (.own d) d e rfl rfl fun v e1 _ => ⟨e1, trivial⟩
  · rename_i d e
    cases em
    exact fin (.ref d) d e rfl rfl fun v e1 _ => ⟨e1, trivial⟩
  · cases em
theorem re_lit {e : Expr} {v : V} {d : PyData} (h : PE X e (tC v)) (r : ∀ F, Rp X.K F v d) : PE X e (tE X.K (eLit d)) := by
  refine pe_imp h fun σ H Q ⟨F, env, A, env', r', em, k⟩ => ?_
  cases em
  exact k v F H A (Frm.refl _ _ _ _) (r F) trivial
theorem re_int {i : Int} {j : Nat} {pos : Pos} : PE X (.Constant (.int i) j pos) (tE X.K (eLit (.int i))) := re_lit pe_int fun _ => .int i
theorem re_str {x : Str} {j : Nat} {pos : Pos} : PE X (.Constant (.str x) j pos) (tE X.K (eLit (.str x))) := re_lit pe_str fun _ => .str x
theorem re_bl {b : Bool} {j : Nat} {pos : Pos} : PE X (.Constant (.bool b) j pos) (tE X.K (eLit (.bool b))) := re_lit pe_bl fun _ => .bl b
theorem re_non {j : Nat} {pos : Pos} : PE X (.Constant .none j pos) (tE X.K (eLit .none)) := re_lit pe_non fun _ => .non

/-! ### argument lists -/
def aNil : MA := fun env => some (env, [])
def aCons (m : ME) (ms : MA) : MA := fun env => (m env).bind fun p => (ms p.1).bind fun q => some (q.1, p.2 :: q.2)
theorem ra_nil : PA X [] (tAs X.K aNil) := by
  refine pa_imp pa_nil fun σ H Q ⟨F, env, A, env', rs, em, k⟩ => ?_
  cases em
  exact k [] F H A (Frm.refl _ _ _ _) trivial fun v hv => by cases hv
theorem ra_cons {e : Expr} {es : List Expr} {m : ME} {ms : MA} (h1 : PE X e (tE X.K m)) (h2 : PA X es (tAs X.K ms)) (hs : starEach (e :: es) X.env = (false, eval e X.env) :: starEach es X.env := by rfl) : PA X (e :: es) (tAs X.K (aCons m ms)) := by
  refine pa_imp (pa_cons h1 h2 hs) fun σ H Q ⟨F, env, A, env', rs, em, k⟩ => ?_
  unfold aCons at em
  cases e1 : m env with
  | none => rw [e1] at em; cases em
  | some p =>
    obtain ⟨env1, r1⟩ := p
    rw [e1] at em
    cases e2 : ms env1 with
    | none => simp [e2] at em
    | some q =>
      obtain ⟨env2, rs2⟩ := q
      simp [e2] at em
      obtain ⟨rfl, rfl⟩ := em
      refine ⟨F, env, A, env1, r1, e1, fun v F1 H1 A1 f1 o1 n1 => ⟨F1, env1, A1, env2, rs2, e2, fun vs F2 H2 A2 f2 o2 n2 => ?_⟩⟩
      refine k (v :: vs) F2 H2 A2 (f1.trans f2) ⟨RV.ok.keep o1 f2, o2, ?_⟩ ?_
      · rintro ⟨d, rfl⟩ hv
        obtain ⟨a, e, n⟩ := n2 v hv
        obtain ⟨a', e', _, oc, _⟩ := o1
        rw [e] at e'; cases e'
        obtain ⟨o, ho⟩ := oc.there
        rw [n] at ho; cases ho
      · intro u hu
        have n2' := n2.back f1
        cases r1 with
        | own d =>
          rcases List.mem_cons.mp hu with rfl | hu
          · exact n1
          · exact n2' u hu
        | fz d => exact n2' u hu
        | plc i => exact n2' u hu

/-! ### operations by data -/
def viewAll (env : MEnv) : List RV → Option (List PyData)
  | [] => some []
  | r :: rs => (r.view env).bind fun d => (viewAll env rs).bind fun ds => some (d :: ds)
inductive RkAll (K : PySem.W.Frag) (F H : Hp) : List V → List PyData → Prop
  | nil : RkAll K F H [] []
  | cons {v : V} {vs : List V} {d : PyData} {ds : List PyData} : Rk K F H v d → RkAll K F H vs ds → RkAll K F H (v :: vs) (d :: ds)
theorem rk_all {K : PySem.W.Frag} {F H : Hp} {σ : L2.St} {env : MEnv} (A : Abs K F H σ env) : ∀ {vs : List V} {rs : List RV} {ds : List PyData}, rvsOk K F H σ env vs rs → viewAll env rs = some ds → RkAll K F H vs ds
  | [], [], ds, _, e => by cases e; exact .nil
  | v :: vs, r :: rs, ds, h, e => by
    unfold viewAll at e
    cases e1 : r.view env with
    | none => rw [e1] at e; cases e
    | some d =>
      rw [e1] at e
      cases e2 : viewAll env rs with
      | none => rw [e2] at e; cases e
      | some ds' =>
        rw [e2] at e
        cases e
        exact .cons (RV.ok.rk h.1 A e1) (rk_all A h.2.1 e2)
  | [], _ :: _, _, h, _ => h.elim
  | _ :: _, [], _, h, _ => h.elim

def rOp1 (K : PySem.W.Frag) (f : PyData → Option RV) : V → Hp → VK → Prop := fun x H Q => ∃ F d r, Same F H ∧ Rk K F H x d ∧ f d = some r ∧ Gives K F H Q r
def rOp2 (K : PySem.W.Frag) (f : PyData → PyData → Option RV) : R2 := fun x y H Q => ∃ F d e r, Same F H ∧ Rk K F H x d ∧ Rk K F H y e ∧ f d e = some r ∧ Gives K F H Q r
def rCall (K : PySem.W.Frag) (f : List PyData → Option RV) : List V → Hp → VK → Prop := fun vs H Q => ∃ F ds r, Same F H ∧ RkAll K F H vs ds ∧ f ds = some r ∧ Gives K F H Q r
def eOp1 (f : PyData → Option RV) (m : ME) : ME := fun env => (m env).bind fun p => (p.2.view p.1).bind fun d => (f d).bind fun r => some (p.1, r)
def eOp2 (f : PyData → PyData → Option RV) (ma mb : ME) : ME := fun env => (ma env).bind fun p => (mb p.1).bind fun q => (p.2.view q.1).bind fun d => (q.2.view q.1).bind fun e => (f d e).bind fun r => some (q.1, r)
def eCall (f : List PyData → Option RV) (ms : MA) : ME := fun env => (ms env).bind fun p => (viewAll p.1 p.2).bind fun ds => (f ds).bind fun r => some (p.1, r)

theorem bind_some {α β : Type} {x : Option α} {f : α → Option β} {b : β} (h : x.bind f = some b) : ∃ a, x = some a ∧ f a = some b := by
  cases x with
  | none => cases h
  | some a => exact ⟨a, rfl, h⟩
theorem op1_to {K : PySem.W.Frag} {f : PyData → Option RV} {m : ME} {σ : L2.St} {H : Hp} {Q : VK} (h : tE K (eOp1 f m) σ H Q) : tE K m σ H fun x H1 => rOp1 K f x H1 Q := by
  obtain ⟨F, env, A, env', r, em, k⟩ := h
  obtain ⟨⟨env1, r1⟩, e1, em⟩ := bind_some em
  obtain ⟨d, e2, em⟩ := bind_some em
  obtain ⟨r', e3, em⟩ := bind_some em
  cases em
  exact ⟨F, env, A, env1, r1, e1, fun v F1 H1 A1 f1 o1 n1 => ⟨F1, d, _, A1.same, RV.ok.rk o1 A1 e2, e3, gives_to A1 f1 k⟩⟩
theorem op2_to {K : PySem.W.Frag} {f : PyData → PyData → Option RV} {ma mb : ME} {σ : L2.St} {H : Hp} {Q : VK} (h : tE K (eOp2 f ma mb) σ H Q) : tE K ma σ H fun x H1 => tE K mb σ H1 fun y H2 => rOp2 K f x y H2 Q := by
  obtain ⟨F, env, A, env', r, em, k⟩ := h
  obtain ⟨⟨env1, r1⟩, e1, em⟩ := bind_some em
  obtain ⟨⟨env2, r2⟩, e2, em⟩ := bind_some em
  obtain ⟨d, e3, em⟩ := bind_some em
  obtain ⟨e, e4, em⟩ := bind_some em
  obtain ⟨r', e5, em⟩ := bind_some em
  cases em
  exact ⟨F, env, A, env1, r1, e1, fun v F1 H1 A1 f1 o1 n1 => ⟨F1, env1, A1, env2, r2, e2, fun u F2 H2 A2 f2 o2 n2 =>
    ⟨F2, d, e, _, A2.same, RV.ok.rk (RV.ok.keep o1 f2) A2 e3, RV.ok.rk o2 A2 e4, e5, gives_to A2 (f1.trans f2) k⟩⟩⟩
theorem call_to {K : PySem.W.Frag} {f : List PyData → Option RV} {ms : MA} {σ : L2.St} {H : Hp} {Q : VK} (h : tE K (eCall f ms) σ H Q) : tAs K ms σ H fun vs H1 => rCall K f vs H1 Q := by
  obtain ⟨F, env, A, env', r, em, k⟩ := h
  obtain ⟨⟨env1, rs⟩, e1, em⟩ := bind_some em
  obtain ⟨ds, e2, em⟩ := bind_some em
  obtain ⟨r', e3, em⟩ := bind_some em
  cases em
  exact ⟨F, env, A, env1, rs, e1, fun vs F1 H1 A1 f1 o1 n1 => ⟨F1, ds, _, A1.same, rk_all A1 o1 e2, e3, gives_to A1 f1 k⟩⟩

variable {a b c e o : Expr} {es : List Expr} {pos p p2 apos cpos : Pos} {f g : PyData → PyData → Option RV} {f1 : PyData → Option RV} {fc : List PyData → Option RV} {ma mb mc mo : ME} {ms : MA} {op op' : CmpOp} {id T : String} {x : Str}
theorem re_op {op : Operator} (ho : OpR X (binaryOp op) (rOp2 X.K f)) (ha : PE X a (tE X.K ma)) (hb : PE X b (tE X.K mb)) : PE X (.BinOp a op b pos) (tE X.K (eOp2 f ma mb)) := pe_imp (pe_op ho ha hb) fun _ _ _ => op2_to
theorem re_un {op : UnaryOp} (ho : UnR X (unaryOp op) (rOp1 X.K f1)) (ha : PE X a (tE X.K ma)) : PE X (.UnaryOp op a pos) (tE X.K (eOp1 f1 ma)) := pe_imp (pe_un ho ha) fun _ _ _ => op1_to
theorem re_ix (hr : IxR X (rOp2 X.K f)) (ha : PE X a (tE X.K ma)) (hb : PE X b (tE X.K mb)) (hs : PlainIx b) : PE X (.Subscript a b pos) (tE X.K (eOp2 f ma mb)) := pe_imp (pe_ix hr ha hb hs) fun _ _ _ => op2_to
theorem re_cmp (ho : OpR X (compareOp op) (rOp2 X.K f)) (ha : PE X a (tE X.K ma)) (hb : PE X b (tE X.K mb)) (hm : behindInMarks op b = false) : PE X (.Compare a [op] [b] pos) (tE X.K (eOp2 f ma mb)) := pe_imp (pe_cmpR ho ha hb hm) fun _ _ _ => op2_to
theorem re_callB (hc : CallR X (.builtin id) (rCall X.K fc)) (hg : Gl X x) (hm : X.mg x = none) (hv : bootBuiltins x = some (.builtin id)) (ha : PA X (e :: es) (tAs X.K ms)) (hn : x ≠ "__name__" := by decide) (hdb : (x == ("__debug__" : Str)) = false := by decide)
    (he : starEach (e :: es) X.env = (false, eval e X.env) :: starEach es X.env := by rfl) (hpl : (backTo pos (starEach es X.env)).any (·.1) = false := by rfl) : PE X (.Call (.Name x p) (e :: es) [] pos) (tE X.K (eCall fc ms)) :=
  pe_imp (pe_callB hc hg hm hv ha hn hdb he hpl) fun _ _ _ => call_to
theorem re_callTy (hc : CallR X (.type T) (rCall X.K fc)) (hg : Gl X x) (hm : X.mg x = none) (hv : bootBuiltins x = some (.type T)) (ha : PA X (e :: es) (tAs X.K ms)) (hn : x ≠ "__name__" := by decide) (hdb : (x == ("__debug__" : Str)) = false := by decide)
    (he : starEach (e :: es) X.env = (false, eval e X.env) :: starEach es X.env := by rfl) (hpl : (backTo pos (starEach es X.env)).any (·.1) = false := by rfl) : PE X (.Call (.Name x p) (e :: es) [] pos) (tE X.K (eCall fc ms)) :=
  pe_imp (pe_callTy hc hg hm hv ha hn hdb he hpl) fun _ _ _ => call_to

/-! ### tests -/
def asT (m : ME) : MT := fun env => (m env).bind fun p => match p.2 with
  | .fz (.bool k) => some (p.1, k)
  | _ => none
theorem asT_some {m : ME} {env env' : MEnv} {k : Bool} (h : asT m env = some (env', k)) : m env = some (env', .fz (.bool k)) := by
  obtain ⟨⟨env1, r⟩, e1, em⟩ := bind_some h
  split at em
  · rename_i k' e
    cases em
    rw [e1]
    have e' : r = RV.fz (.bool k) := e
    rw [e']
  · cases em
theorem asT_to {K : PySem.W.Frag} {m : ME} {σ : L2.St} {H : Hp} {Q : Bool → Hp → Prop} (h : tT K (asT m) σ H Q) : tE K m σ H fun x H1 => ∃ k, x = .bl k ∧ Q k H1 := by
  obtain ⟨F, env, A, env', k, em, kk⟩ := h
  refine ⟨F, env, A, env', .fz (.bool k), asT_some em, fun v F' H' A' f' o' _ => ⟨k, ?_, kk F' H' A' f'⟩⟩
  cases (show Rp K F' v (.bool k) from o')
  rfl
theorem rt_cmp (ho : OpR X (compareOp op) (rOp2 X.K f)) (ha : PE X a (tE X.K ma)) (hb : PE X b (tE X.K mb)) (hm : behindInMarks op b = false) : PT X (.Compare a [op] [b] pos) (tT X.K (asT (eOp2 f ma mb))) :=
  pt_imp (pt_cmpR ho ha hb hm) fun _ _ _ h => op2_to (asT_to h)
theorem rt_val (h : PE X e (tE X.K ma)) (he : ∀ whole, isTrue e X.env whole = (do let v ← whole; standAt e.pos; holding [v] (truthy v)) := by intro _; rfl) : PT X e (tT X.K (asT ma)) :=
  pt_imp (pt_val h he) fun _ _ _ q => asT_to q
def mAnd (s t : MT) : MT := fun env => (s env).bind fun p => if p.2 = true then t p.1 else some (p.1, false)
def mOr (s t : MT) : MT := fun env => (s env).bind fun p => if p.2 = true then some (p.1, true) else t p.1
def mNot (s : MT) : MT := fun env => (s env).bind fun p => some (p.1, !p.2)
theorem tT_bind {K : PySem.W.Frag} {s : MT} {g : MEnv → Bool → Option (MEnv × Bool)} {σ : L2.St} {H : Hp} {Q : Bool → Hp → Prop} (h : tT K (fun env => (s env).bind fun p => g p.1 p.2) σ H Q) :
    tT K s σ H fun b H1 => ∀ t : MT, (∀ env, t env = g env b) → tT K t σ H1 Q := by
  obtain ⟨F, env, A, env', k, em, kk⟩ := h
  obtain ⟨⟨env1, b⟩, e1, em⟩ := bind_some em
  exact ⟨F, env, A, env1, b, e1, fun F1 H1 A1 f1 t ht => ⟨F1, env1, A1, env', k, (ht env1).trans em, fun F2 H2 A2 f2 => kk F2 H2 A2 (f1.trans f2)⟩⟩
theorem tT_done {K : PySem.W.Frag} {b : Bool} {σ : L2.St} {H : Hp} {Q : Bool → Hp → Prop} (h : tT K (fun env => some (env, b)) σ H Q) : Q b H := by
  obtain ⟨F, env, A, env', k, em, kk⟩ := h
  cases em
  exact kk F H A (Frm.refl _ _ _ _)
theorem tT_mono {K : PySem.W.Frag} {s : MT} {σ : L2.St} {H : Hp} {Q Q' : Bool → Hp → Prop} (h : tT K s σ H Q) (i : ∀ b H, Q b H → Q' b H) : tT K s σ H Q' := by
  obtain ⟨F, env, A, env', k, em, kk⟩ := h
  exact ⟨F, env, A, env', k, em, fun F' H' A' f' => i _ _ (kk F' H' A' f')⟩
theorem and_to {K : PySem.W.Frag} {s t : MT} {σ : L2.St} {H : Hp} {Q : Bool → Hp → Prop} (h : tT K (mAnd s t) σ H Q) : tAnd (tT K s) (tT K t) σ H Q := by
  refine tT_mono (tT_bind (g := fun env b => if b = true then t env else some (env, false)) h) fun b H1 q => ?_
  cases b with
  | true => exact q t fun env => rfl
  | false => exact tT_done (q (fun env => some (env, false)) fun env => rfl)
theorem or_to {K : PySem.W.Frag} {s t : MT} {σ : L2.St} {H : Hp} {Q : Bool → Hp → Prop} (h : tT K (mOr s t) σ H Q) : tOr (tT K s) (tT K t) σ H Q := by
  refine tT_mono (tT_bind (g := fun env b => if b = true then some (env, true) else t env) h) fun b H1 q => ?_
  cases b with
  | true => exact tT_done (q (fun env => some (env, true)) fun env => rfl)
  | false => exact q t fun env => rfl
theorem not_to {K : PySem.W.Frag} {s : MT} {σ : L2.St} {H : Hp} {Q : Bool → Hp → Prop} (h : tT K (mNot s) σ H Q) : tNot (tT K s) σ H Q :=
  tT_mono (tT_bind (g := fun env b => some (env, !b)) h) fun b H1 q => tT_done (q (fun env => some (env, !b)) fun env => rfl)
theorem pw_imp {X : Cx} {e : Expr} {t t' : TT} (h : PW X e t) (i : ∀ σ H Q, t' σ H Q → t σ H Q) : PW X e t' := ⟨fun wh pins s σ H Q I q => h.run wh pins s σ H Q I (i σ H Q q)⟩
variable {mt mt' : MT} {rest : List Expr}
theorem rw_and1 (ha : PT X a (tT X.K mt)) : PW X (.BoolOp .And [a] pos) (tT X.K mt) := pw_and1 ha
theorem rw_or1 (ha : PT X a (tT X.K mt)) : PW X (.BoolOp .Or [a] pos) (tT X.K mt) := pw_or1 ha
theorem rw_and (ha : PT X a (tT X.K mt)) (hb : PW X (.BoolOp .And (b :: rest) pos) (tT X.K mt')) : PW X (.BoolOp .And (a :: b :: rest) pos) (tT X.K (mAnd mt mt')) := pw_imp (pw_and ha hb) fun _ _ _ => and_to
theorem rw_or (ha : PT X a (tT X.K mt)) (hb : PW X (.BoolOp .Or (b :: rest) pos) (tT X.K mt')) : PW X (.BoolOp .Or (a :: b :: rest) pos) (tT X.K (mOr mt mt')) := pw_imp (pw_or ha hb) fun _ _ _ => or_to
theorem rt_not (ha : PT X a (tT X.K mt)) : PT X (.UnaryOp .Not a pos) (tT X.K (mNot mt)) := pt_imp (pt_not ha) fun _ _ _ => not_to
/-- .. as values that are truths -/
def eT (t : MT) : ME := fun env => (t env).bind fun p => some (p.1, .fz (.bool p.2))
theorem and_toV {K : PySem.W.Frag} {s t : MT} {σ : L2.St} {H : Hp} {Q : VK} {ta tb : TE} (ia : ∀ σ H Q, tT K s σ H Q → ta σ H fun x H1 => ∃ k, x = .bl k ∧ Q k H1) (ib : ∀ σ H Q, tE K (eT t) σ H Q → tb σ H Q) (h : tE K (eT (mAnd s t)) σ H Q) : tAndV ta tb σ H Q := by
  obtain ⟨F, env, A, env', r, em, k⟩ := h
  obtain ⟨⟨env1, b⟩, e1, em⟩ := bind_some em
  cases em
  obtain ⟨⟨env2, b2⟩, e2, em⟩ := bind_some e1
  refine ia _ _ _ ⟨F, env, A, env2, b2, e2, fun F1 H1 A1 f1 => ?_⟩
  cases b2 with
  | true =>
    refine ib _ _ _ ⟨F1, env2, A1, env1, _, ?_, fun v F2 H2 A2 f2 o2 n2 => k v F2 H2 A2 (f1.trans f2) o2 trivial⟩
    have em' : t env2 = some (env1, b) := em
    show (t env2).bind _ = _
    rw [em']
    rfl
  | false =>
    have em' : some (env2, false) = some (env1, b) := em
    cases em'
    exact k (.bl false) F1 H1 A1 f1 (Rp.bl false) trivial
theorem or_toV {K : PySem.W.Frag} {s t : MT} {σ : L2.St} {H : Hp} {Q : VK} {ta tb : TE} (ia : ∀ σ H Q, tT K s σ H Q → ta σ H fun x H1 => ∃ k, x = .bl k ∧ Q k H1) (ib : ∀ σ H Q, tE K (eT t) σ H Q → tb σ H Q) (h : tE K (eT (mOr s t)) σ H Q) : tOrV ta tb σ H Q := by
  obtain ⟨F, env, A, env', r, em, k⟩ := h
  obtain ⟨⟨env1, b⟩, e1, em⟩ := bind_some em
  cases em
  obtain ⟨⟨env2, b2⟩, e2, em⟩ := bind_some e1
  refine ia _ _ _ ⟨F, env, A, env2, b2, e2, fun F1 H1 A1 f1 => ?_⟩
  cases b2 with
  | false =>
    refine ib _ _ _ ⟨F1, env2, A1, env1, _, ?_, fun v F2 H2 A2 f2 o2 n2 => k v F2 H2 A2 (f1.trans f2) o2 trivial⟩
    have em' : t env2 = some (env1, b) := em
    show (t env2).bind _ = _
    rw [em']
    rfl
  | true =>
    have em' : some (env2, true) = some (env1, b) := em
    cases em'
    exact k (.bl true) F1 H1 A1 f1 (Rp.bl true) trivial
/-- a value that is a truth -/
structure PB (X : Cx) (e : Expr) (t : MT) : Prop where
  ex : ∃ te, PE X e te ∧ (∀ σ H Q, tT X.K t σ H Q → te σ H fun x H1 => ∃ k, x = .bl k ∧ Q k H1) ∧ ∀ σ H Q, tE X.K (eT t) σ H Q → te σ H Q
theorem asT_toE {K : PySem.W.Frag} {m : ME} {σ : L2.St} {H : Hp} {Q : VK} (h : tE K (eT (asT m)) σ H Q) : tE K m σ H Q := by
  obtain ⟨F, env, A, env', r, em, k⟩ := h
  obtain ⟨⟨env1, b⟩, e1, em⟩ := bind_some em
  cases em
  exact ⟨F, env, A, env1, _, asT_some e1, k⟩
theorem rb_val (h : PE X e (tE X.K ma)) : PB X e (asT ma) := ⟨tE X.K ma, h, fun _ _ _ => asT_to, fun _ _ _ => asT_toE⟩
theorem eT_toT {K : PySem.W.Frag} {t : MT} {σ : L2.St} {H : Hp} {Q : Bool → Hp → Prop} (h : tT K t σ H Q) : tE K (eT t) σ H fun x H1 => ∃ k, x = .bl k ∧ Q k H1 := by
  obtain ⟨F, env, A, env', k, em, kk⟩ := h
  refine ⟨F, env, A, env', .fz (.bool k), ?_, fun v F' H' A' f' o' _ => ⟨k, ?_, kk F' H' A' f'⟩⟩
  · show (t env).bind _ = _
    rw [em]
    rfl
  · cases (show Rp K F' v (.bool k) from o')
    rfl
theorem re_truth (h : PB X e mt) : PE X e (tE X.K (eT mt)) := by
  obtain ⟨te, h1, h2, h3⟩ := h.ex
  exact pe_imp h1 h3
theorem rb_of (h : PE X e (tE X.K (eT mt))) : PB X e mt := ⟨tE X.K (eT mt), h, fun _ _ _ => eT_toT, fun _ _ _ q => q⟩
theorem rb_one {op : BoolOp} (h : PB X a mt) : PB X (.BoolOp op [a] pos) mt := by
  obtain ⟨te, h1, h2, h3⟩ := h.ex
  exact ⟨te, pe_one h1, h2, h3⟩
theorem rb_and (ha : PB X a mt) (hb : PB X (.BoolOp .And (b :: rest) pos) mt') : PB X (.BoolOp .And (a :: b :: rest) pos) (mAnd mt mt') := by
  obtain ⟨ta, h1, h2, _⟩ := ha.ex
  obtain ⟨tb, g1, _, g3⟩ := hb.ex
  exact rb_of (pe_imp (pe_and h1 g1) fun _ _ _ => and_toV h2 g3)
theorem rb_or (ha : PB X a mt) (hb : PB X (.BoolOp .Or (b :: rest) pos) mt') : PB X (.BoolOp .Or (a :: b :: rest) pos) (mOr mt mt') := by
  obtain ⟨ta, h1, h2, _⟩ := ha.ex
  obtain ⟨tb, g1, _, g3⟩ := hb.ex
  exact rb_of (pe_imp (pe_or h1 g1) fun _ _ _ => or_toV h2 g3)
theorem rb_not (ha : PB X a mt) : PB X (.UnaryOp .Not a pos) (mNot mt) := by
  obtain ⟨ta, h1, h2, _⟩ := ha.ex
  refine rb_of (pe_imp (pe_not h1) fun σ H Q h => ?_)
  obtain ⟨F, env, A, env', r, em, k⟩ := h
  obtain ⟨⟨env1, b⟩, e1, em⟩ := bind_some em
  cases em
  obtain ⟨⟨env2, b2⟩, e2, em⟩ := bind_some e1
  cases em
  exact h2 _ _ _ ⟨F, env, A, env2, b2, e2, fun F1 H1 A1 f1 => k (.bl (!b2)) F1 H1 A1 f1 (Rp.bl _) trivial⟩
def eIf (t : MT) (m n : ME) : ME := fun env => (t env).bind fun p => if p.2 = true then m p.1 else n p.1
theorem re_if (hc : PT X c (tT X.K mt)) (ha : PE X a (tE X.K ma)) (hb : PE X b (tE X.K mb)) : PE X (.IfExp c a b pos) (tE X.K (eIf mt ma mb)) := by
  refine pe_imp (pe_ifExp hc ha hb) fun σ H Q ⟨F, env, A, env', r, em, k⟩ => ?_
  obtain ⟨⟨env1, b1⟩, e1, em⟩ := bind_some em
  refine ⟨F, env, A, env1, b1, e1, fun F1 H1 A1 f1 => ?_⟩
  cases b1 with
  | true => exact ⟨F1, env1, A1, env', r, em, fun v F2 H2 A2 f2 o2 n2 => k v F2 H2 A2 (f1.trans f2) o2 (RV.isNew.back n2 f1)⟩
  | false => exact ⟨F1, env1, A1, env', r, em, fun v F2 H2 A2 f2 o2 n2 => k v F2 H2 A2 (f1.trans f2) o2 (RV.isNew.back n2 f1)⟩
/-- a op b op' c -/
def eChain (f g : PyData → PyData → Option RV) (ma mb mc : ME) : ME := fun env => (ma env).bind fun p => (mb p.1).bind fun q => (p.2.view q.1).bind fun d => (q.2.view q.1).bind fun e => (f d e).bind fun r => match r with
  | .fz (.bool true) => (mc q.1).bind fun s => (q.2.view s.1).bind fun e' => (s.2.view s.1).bind fun h => (g e' h).bind fun r' => some (s.1, r')
  | .fz (.bool false) => some (q.1, .fz (.bool false))
  | _ => none
theorem chain_to {K : PySem.W.Frag} {σ : L2.St} {H : Hp} {Q : VK} (h : tE K (eChain f g ma mb mc) σ H Q) : tChain (rOp2 K f) (rOp2 K g) (tE K ma) (tE K mb) (tE K mc) σ H Q := by
  obtain ⟨F, env, A, env', r, em, k⟩ := h
  obtain ⟨⟨env1, r1⟩, e1, em⟩ := bind_some em
  obtain ⟨⟨env2, r2⟩, e2, em⟩ := bind_some em
  obtain ⟨d, e3, em⟩ := bind_some em
  obtain ⟨e, e4, em⟩ := bind_some em
  obtain ⟨r', e5, em⟩ := bind_some em
  refine ⟨F, env, A, env1, r1, e1, fun v F1 H1 A1 f1 o1 n1 => ⟨F1, env1, A1, env2, r2, e2, fun u F2 H2 A2 f2 o2 n2 =>
    ⟨F2, d, e, r', A2.same, RV.ok.rk (RV.ok.keep o1 f2) A2 e3, RV.ok.rk o2 A2 e4, e5, fun w F3 H3 sF sH s' nw res => ?_⟩⟩⟩
  obtain ⟨A3, f3⟩ := grow A2 sF sH s' nw
  split at em
  · have res' : Rp K F3 w (.bool true) := res
    cases res'
    refine ⟨true, rfl, ?_⟩
    obtain ⟨⟨env4, r4⟩, g1, em⟩ := bind_some em
    obtain ⟨e', g2, em⟩ := bind_some em
    obtain ⟨hh, g3, em⟩ := bind_some em
    obtain ⟨r5, g4, em⟩ := bind_some em
    cases em
    exact ⟨F3, env2, A3, env4, r4, g1, fun z F4 H4 A4 f4 o4 n4 => ⟨F4, e', hh, _, A4.same, RV.ok.rk (RV.ok.keep (RV.ok.keep o2 f3) f4) A4 g2, RV.ok.rk o4 A4 g3, g4, gives_to A4 (((f1.trans f2).trans f3).trans f4) k⟩⟩
  · have res' : Rp K F3 w (.bool false) := res
    cases res'
    cases em
    exact ⟨false, rfl, k (.bl false) F3 H3 A3 ((f1.trans f2).trans f3) (Rp.bl false) trivial⟩
  · cases em
theorem re_chain (ho : OpR X (compareOp op) (rOp2 X.K f)) (ho' : OpR X (compareOp op') (rOp2 X.K g)) (ha : PE X a (tE X.K ma)) (hb : PE X b (tE X.K mb)) (hc : PE X c (tE X.K mc))
    (hm : lastMarks [op, op'] [b, c] = false := by with_unfolding_all rfl) : PE X (.Compare a [op, op'] [b, c] pos) (tE X.K (eChain f g ma mb mc)) := pe_imp (pe_chain ho ho' ha hb hc hm) fun _ _ _ => chain_to
theorem rt_chain (ho : OpR X (compareOp op) (rOp2 X.K f)) (ho' : OpR X (compareOp op') (rOp2 X.K g)) (ha : PE X a (tE X.K ma)) (hb : PE X b (tE X.K mb)) (hc : PE X c (tE X.K mc))
    (hm : lastMarks [op, op'] [b, c] = false := by with_unfolding_all rfl) : PT X (.Compare a [op, op'] [b, c] pos) (tT X.K (asT (eChain f g ma mb mc))) := pt_imp (pt_chain ho ho' ha hb hc hm) fun _ _ _ h => chain_to (asT_to h)
end
end L3

/-! L3C: freezing, displays, what is walked, comprehensions. -/
namespace L3
open PySem PySem.Spec PyProof.Rows L2

abbrev lineN : Nat := 16777216
theorem lineN_eq : lineN = sizeLine := sizeLine_eq.symm

/-! ### freezing -/
def RV.fix (env : MEnv) : RV → Option (MEnv × PyData)
  | .fz d => some (env, d)
  | .own d => some (env, d)
  | .plc i => (env[i]?).bind fun x => x.view.bind fun d => some (env.set i x.freeze, d)
def fixAll (env : MEnv) : List RV → Option (MEnv × List PyData)
  | [] => some (env, [])
  | r :: rs => (r.fix env).bind fun p => (fixAll p.1 rs).bind fun q => some (q.1, p.2 :: q.2)

section
variable {K : PySem.W.Frag} {F H F' H' F0 H0 : Hp} {σ σ0 : L2.St} {env env' env0 : MEnv}
/-- F with what stands at a in H -/
def join (F H : Hp) (a : Addr) : Hp := fun b => if b = a then H a else F b
theorem join_same (F H : Hp) (a : Addr) : join F H a a = H a := by unfold join; rw [if_pos rfl]
theorem join_ne {F H : Hp} {a b : Addr} (h : b ≠ a) : join F H a b = F b := by unfold join; rw [if_neg h]
theorem join_le {F H : Hp} {a : Addr} (h : F a = none) : Same F (join F H a) := fun b o q => by
  rw [join_ne (ne_of_none q h)]; exact q
theorem join_sub {F H : Hp} {a : Addr} (e : Same F H) : Same (join F H a) H := fun b o q => by
  by_cases hb : b = a
  · subst hb; rw [join_same] at q; exact q
  · rw [join_ne hb] at q; exact e b o q
theorem OwnC.joined {a : Addr} {d : PyData} (h : OwnC K F H a d) (e : F a = none) : Rp K (join F H a) (.ref a) d := by
  have s := join_le (H := H) e
  cases d with
  | list ds => obtain ⟨xs, q, r⟩ := h; exact .lst (SqL.of ((join_same F H a).trans q)) (r.mono s)
  | dict kvs =>
    rcases h with ⟨ks, ds, q, r, z⟩ | ⟨ks, ds, q, r, n, z⟩
    · subst z; exact .dK ((join_same F H a).trans q) (r.mono s)
    · subst z; exact .dT ((join_same F H a).trans q) n (r.mono s)
  | _ => exact h.elim
/-- slots that do not own a stay as they are when a is frozen -/
theorem slot_join {x : SV} {a : Addr} {y : Option (Option V)} (h : x.ok K F H y) (e : F a = none) (n : ∀ d, x.isOwn = some d → y ≠ some (some (.ref a))) : x.ok K (join F H a) H y := by
  have s := join_le (H := H) e
  have own : ∀ d, x.isOwn = some d → (∃ b, y = some (some (.ref b)) ∧ F b = none ∧ OwnC K F H b d) → ∃ b, y = some (some (.ref b)) ∧ join F H a b = none ∧ OwnC K (join F H a) H b d := fun d o ⟨b, q, f, c⟩ => by
    have hb : b ≠ a := fun z => by subst z; exact n d o q
    exact ⟨b, q, (join_ne hb).trans f, c.keep s fun o z => z⟩
  cases x with
  | unb => trivial
  | fz d => obtain ⟨v, q, r⟩ := h; exact ⟨v, q, r.mono s⟩
  | rfz d => obtain ⟨v, q, r⟩ := h; exact ⟨v, q, r.mono s⟩
  | own d => exact own d rfl h
  | ref d => exact own d rfl h
theorem getSet {env : MEnv} {i j : Nat} {x y : SV} (h : (env.set i x)[j]? = some y) : (j = i ∧ y = x ∧ i < env.length) ∨ (j ≠ i ∧ env[j]? = some y) := by
  by_cases hj : j = i
  · subst hj
    by_cases hl : j < env.length
    · rw [List.getElem?_set_self hl] at h
      exact .inl ⟨rfl, (Option.some.inj h).symm, hl⟩
    · rw [List.getElem?_eq_none (by rw [List.length_set]; omega)] at h
      cases h
  · rw [List.getElem?_set_ne (Ne.symm hj)] at h
    exact .inr ⟨hj, h⟩
/-- one slot's root is frozen -/
theorem freeze_slot (A : Abs K F H σ env) {i : Nat} {x : SV} {d : PyData} (e : env[i]? = some x) (o : x.view = some d) :
    ∃ F' v, σ[i]? = some (some v) ∧ Abs K F' H σ (env.set i x.freeze) ∧ Frm F H σ env F' H σ (env.set i x.freeze) ∧ Rp K F' v d := by
  have same : x.freeze = x → (∃ v, σ[i]? = some (some v) ∧ Rp K F v d) → ∃ F' v, σ[i]? = some (some v) ∧ Abs K F' H σ (env.set i x.freeze) ∧ Frm F H σ env F' H σ (env.set i x.freeze) ∧ Rp K F' v d := fun hx ⟨v, q, r⟩ => by
    have es : env.set i x.freeze = env := by
      rw [hx]
      exact List.ext_getElem? fun j => by
        by_cases hj : j = i
        · subst hj
          rw [List.getElem?_set_self (List.getElem?_eq_some_iff.mp e).1]; exact e.symm
        · rw [List.getElem?_set_ne (Ne.symm hj)]
    rw [es]
    exact ⟨F, v, q, A, Frm.refl _ _ _ _, r⟩
  have own : ∀ (a : Addr), x.isOwn = some d → x.freeze.isOwn = none → (x.lock = true → x.freeze.lock = true) → (∀ z, x.freeze ≠ .own z) → σ[i]? = some (some (.ref a)) → F a = none → OwnC K F H a d → (∀ G v, σ[i]? = some (some v) → Rp K G v d → x.freeze.ok K G H (σ[i]?)) →
      ∃ F' v, σ[i]? = some (some v) ∧ Abs K F' H σ (env.set i x.freeze) ∧ Frm F H σ env F' H σ (env.set i x.freeze) ∧ Rp K F' v d := fun a ho hn hl hu hs hf hc hk => by
    have own1 : ∀ j b, OwnsAt σ (env.set i x.freeze) j b → OwnsAt σ env j b ∧ j ≠ i := fun j b ⟨y, dy, e1, e2, e3⟩ => by
      rcases getSet e1 with ⟨rfl, rfl, _⟩ | ⟨hj, e1⟩
      · rw [hn] at e2; cases e2
      · exact ⟨⟨y, dy, e1, e2, e3⟩, hj⟩
    refine ⟨join F H a, .ref a, hs, ⟨join_sub A.same, by rw [List.length_set]; exact A.len, fun j y ey => ?_, fun j l b h1 h2 => A.inj j l b (own1 j b h1).1 (own1 l b h2).1⟩, ⟨join_le hf, fun b o h _ => h, fun b o h => ⟨o, h⟩, fun b o h => ?_, fun b ⟨j, h⟩ => .inl ⟨j, (own1 j b h).1⟩, fun b ⟨j, z, h1, h2⟩ => ?_, fun j y e1 l => ?_, by rw [List.length_set]⟩, hc.joined hf⟩
    · rcases getSet ey with ⟨rfl, rfl, _⟩ | ⟨hj, ey⟩
      · exact hk _ _ hs (hc.joined hf)
      · refine slot_join (A.slot j y ey) hf fun dy oy z => hj (A.inj j i a ⟨y, dy, ey, oy, z⟩ ⟨x, d, e, ho, hs⟩)
    · by_cases hb : b = a
      · subst hb; exact .inr (.inr ⟨i, x, d, e, ho, hs⟩)
      · rw [join_ne hb] at h; exact .inl h
    · rcases getSet h1 with ⟨rfl, q, _⟩ | ⟨hj, h1⟩
      · exact (hu z q.symm).elim
      · exact .inl ⟨j, z, h1, h2⟩
    · refine ⟨rfl, ?_⟩
      by_cases hj : j = i
      · subst hj
        rw [e] at e1; cases e1
        exact ⟨x.freeze, List.getElem?_set_self (List.getElem?_eq_some_iff.mp e).1, hl l⟩
      · exact ⟨y, by rw [List.getElem?_set_ne (Ne.symm hj)]; exact e1, l⟩
  have h := A.slot i x e
  cases x with
  | unb => cases o
  | fz d' => cases o; exact same rfl h
  | rfz d' => cases o; exact same rfl h
  | own d' => cases o; obtain ⟨a, q, f, c⟩ := h; exact own a rfl rfl (fun z => by cases z) (fun z q => by cases q) q f c fun G v q r => ⟨v, q, r⟩
  | ref d' => cases o; obtain ⟨a, q, f, c⟩ := h; exact own a rfl rfl (fun _ => rfl) (fun z q => by cases q) q f c fun G v q r => ⟨v, q, r⟩
/-- an owned temporary is frozen -/
theorem freeze_temp (A : Abs K F H σ env) (f : Frm F0 H0 σ0 env0 F H σ env) {a : Addr} {d : PyData} (fa : F a = none) (c : OwnC K F H a d) (hn : ¬ Owns σ env a) (h0 : H0 a = none) :
    Abs K (join F H a) H σ env ∧ Frm F0 H0 σ0 env0 (join F H a) H σ env ∧ Rp K (join F H a) (.ref a) d := by
  refine ⟨⟨join_sub A.same, A.len, fun j y ey => slot_join (A.slot j y ey) fa fun dy oy z => hn ⟨j, y, dy, ey, oy, z⟩, A.inj⟩, ⟨f.sameF.trans (join_le fa), f.keep, f.there, fun b o h => ?_, f.own, f.ownU, f.lock, f.len⟩, c.joined fa⟩
  by_cases hb : b = a
  · subst hb; exact .inr (.inl h0)
  · rw [join_ne hb] at h; exact f.new b o h
/-- the other temporaries stay -/
theorem rvsOk.join {a : Addr} (fa : F a = none) : ∀ {vs : List V} {rs : List RV}, rvsOk K F H σ env vs rs → (∀ v ∈ ownVs vs rs, v ≠ .ref a) → rvsOk K (join F H a) H σ env vs rs
  | [], [], _, _ => trivial
  | v :: vs, .fz d :: rs, h, n => ⟨Rp.mono (join_le fa) h.1, rvsOk.join fa h.2.1 n, h.2.2⟩
  | v :: vs, .plc i :: rs, h, n => ⟨h.1, rvsOk.join fa h.2.1 n, h.2.2⟩
  | v :: vs, .own d :: rs, h, n => by
    obtain ⟨⟨b, e, f, c, o⟩, h2, h3⟩ := h
    have hb : b ≠ a := fun z => by subst z; exact n v List.mem_cons_self e
    exact ⟨⟨b, e, (join_ne hb).trans f, c.keep (join_le fa) fun _ z => z, o⟩, rvsOk.join fa h2 fun u hu => n u (List.mem_cons_of_mem _ hu), h3⟩
  | [], _ :: _, h, _ => h.elim
  | _ :: _, [], h, _ => h.elim
theorem fix_all : ∀ {vs : List V} {rs : List RV} {F : Hp} {env env' : MEnv} {ds : List PyData}, Abs K F H σ env → Frm F0 H0 σ0 env0 F H σ env → rvsOk K F H σ env vs rs → rvsNew H0 vs rs → fixAll env rs = some (env', ds) →
    ∃ F', Abs K F' H σ env' ∧ Frm F0 H0 σ0 env0 F' H σ env' ∧ RpAll K F' vs ds ∧ Same F F'
  | [], [], F, env, env', ds, A, f, _, _, e => by cases e; exact ⟨F, A, f, .nil, Same.refl _⟩
  | v :: vs, r :: rs, F, env, env', ds, A, f, h, n, e => by
    obtain ⟨⟨env1, d⟩, e1, e⟩ := bind_some e
    obtain ⟨⟨env2, ds'⟩, e2, e⟩ := bind_some e
    cases e
    cases r with
    | fz d' =>
      cases e1
      obtain ⟨F', A', f', r', s'⟩ := fix_all A f h.2.1 n e2
      exact ⟨F', A', f', .cons (Rp.mono s' h.1) r', s'⟩
    | own d' =>
      cases e1
      obtain ⟨⟨a, rfl, fa, c, o⟩, h2, h3⟩ := h
      obtain ⟨a', ea, ha⟩ := n _ List.mem_cons_self
      cases ea
      obtain ⟨A1, f1, r1⟩ := freeze_temp A f fa c o ha
      obtain ⟨F', A', f', r', s'⟩ := fix_all A1 f1 (h2.join fa fun v hv z => by subst z; exact h3 ⟨_, rfl⟩ hv) (fun v hv => n v (List.mem_cons_of_mem _ hv)) e2
      exact ⟨F', A', f', .cons (r1.mono s') r', (join_le fa).trans s'⟩
    | plc i =>
      obtain ⟨x, ex, e1⟩ := bind_some e1
      obtain ⟨d', ed, e1⟩ := bind_some e1
      cases e1
      obtain ⟨F1, u, hu, A1, f1, r1⟩ := freeze_slot A ex ed
      have hv : σ[i]? = some (some v) := h.1
      rw [hv] at hu
      cases hu
      obtain ⟨F', A', f', r', s'⟩ := fix_all A1 (f.trans f1) (h.2.1.keep f1) n e2
      exact ⟨F', A', f', .cons (r1.mono s') r', f1.sameF.trans s'⟩
  | [], _ :: _, _, _, _, _, _, _, h, _, _ => h.elim
  | _ :: _, [], _, _, _, _, _, _, h, _, _ => h.elim
theorem fix_one {v : V} {r : RV} {d : PyData} (A : Abs K F H σ env) (f : Frm F0 H0 σ0 env0 F H σ env) (h : r.ok K F H σ env v) (n : r.isNew H0 v) (e : r.fix env = some (env', d)) :
    ∃ F', Abs K F' H σ env' ∧ Frm F0 H0 σ0 env0 F' H σ env' ∧ Rp K F' v d ∧ Same F F' := by
  have e' : fixAll env [r] = some (env', [d]) := by
    unfold fixAll
    rw [e]
    rfl
  have hn : rvsNew H0 [v] [r] := fun u hu => by
    cases r with
    | own d =>
      rcases List.mem_cons.mp hu with rfl | hu
      · exact n
      · cases hu
    | fz d => cases hu
    | plc i => cases hu
  obtain ⟨F', A', f', r', s'⟩ := fix_all (vs := [v]) (rs := [r]) A f ⟨h, trivial, fun _ z => by cases z⟩ hn e'
  cases r' with
  | cons h _ => exact ⟨F', A', f', h, s'⟩
end

/-! ### displays -/
def eTup (ms : MA) : ME := fun env => (ms env).bind fun p => (fixAll p.1 p.2).bind fun q => if q.2.length ≤ lineN then some (q.1, .fz (.tuple q.2)) else none
def eLst (ms : MA) : ME := fun env => (ms env).bind fun p => (fixAll p.1 p.2).bind fun q => if q.2.length ≤ lineN then some (q.1, .own (.list q.2)) else none
section
variable {X : Cx} {es : List Expr} {ms : MA} {pos : Pos}
theorem re_tup {x1 : Nat} (h : PA X es (tAs X.K ms)) : PE X (.Tuple es x1 pos) (tE X.K (eTup ms)) := by
  refine pe_imp (pe_tup h) fun σ H Q ⟨F, env, A, env', r, em, k⟩ => ?_
  obtain ⟨⟨env1, rs⟩, e1, em⟩ := bind_some em
  obtain ⟨⟨env2, ds⟩, e2, em⟩ := bind_some em
  split at em
  · rename_i hz
    cases em
    refine ⟨F, env, A, env1, rs, e1, fun vs F1 H1 A1 f1 o1 n1 => ?_⟩
    obtain ⟨F2, A2, f2, r2, s2⟩ := fix_all A1 f1 o1 n1 e2
    have hz' : ds.length ≤ lineN := hz
    exact ⟨by rw [r2.length, ← lineN_eq]; exact hz', fun p hp => (gives_to A2 f2 k).newTup A2.same r2 hp⟩
  · cases em
theorem re_lst (h : PA X es (tAs X.K ms)) : PE X (.List es pos) (tE X.K (eLst ms)) := by
  refine pe_imp (pe_lst h) fun σ H Q ⟨F, env, A, env', r, em, k⟩ => ?_
  obtain ⟨⟨env1, rs⟩, e1, em⟩ := bind_some em
  obtain ⟨⟨env2, ds⟩, e2, em⟩ := bind_some em
  split at em
  · rename_i hz
    cases em
    refine ⟨F, env, A, env1, rs, e1, fun vs F1 H1 A1 f1 o1 n1 => ?_⟩
    obtain ⟨F2, A2, f2, r2, s2⟩ := fix_all A1 f1 o1 n1 e2
    have hz' : ds.length ≤ lineN := hz
    exact ⟨by rw [r2.length, ← lineN_eq]; exact hz', fun p hp => (gives_to A2 f2 k).newList A2.same r2 hp⟩
  · cases em
end

/-! ### what is walked -/
abbrev MI := MEnv → Option (MEnv × List PyData)
structure ItOk (K : PySem.W.Frag) (J : It) (F : Hp) (ds : List PyData) : Prop where
  stop : ∀ H, Same F H → J.stop ds.length H
  go : ∀ i H, Same F H → i < ds.length → J.go i H
  yld : ∀ i H G x H' d, Same F G → Same G H → J.yld i H x H' → ds[i]? = some d → ∃ G', Same G G' ∧ Same H H' ∧ Same G' H' ∧ (∀ a o, G' a = some o → G a = some o ∨ H a = none) ∧ Rp K G' x d
def tIt (K : PySem.W.Frag) (m : MI) : TI := fun σ H R => ∃ F env, Abs K F H σ env ∧ ∃ env' ds, m env = some (env', ds) ∧
  ∀ J F' H', Abs K F' H' σ env' → Frm F H σ env F' H' σ env' → ItOk K J F' ds → R J H'
theorem it_list {K : PySem.W.Frag} {F : Hp} {a : Addr} {xs : List V} {ds : List PyData} (h : SqL K F a xs) (r : RpAll K F xs ds) : ItOk K (Itl K a) F ds where
  stop := fun H s => ⟨xs, sql_mono s h, Nat.le_of_eq r.length⟩
  go := fun i H s hi => by
    have hi' : i < xs.length := by rw [r.length]; exact hi
    exact ⟨xs, xs[i], sql_mono s h, List.getElem?_eq_getElem hi'⟩
  yld := fun i H G x H' d s s' y e => by
    obtain ⟨rfl, y⟩ := y
    obtain ⟨v, h1, h2⟩ := r.get e
    have := y xs (sql_mono (s.trans s') h)
    rw [h1] at this; cases this
    exact ⟨G, Same.refl _, Same.refl _, s', fun _ _ h => .inl h, h2.mono s⟩
theorem it_tup {K : PySem.W.Frag} {F : Hp} {a : Addr} {xs : List V} {ds : List PyData} (h : SqT K F a xs) (r : RpAll K F xs ds) : ItOk K (Itt K a) F ds where
  stop := fun H s => ⟨xs, sqt_mono s h, Nat.le_of_eq r.length⟩
  go := fun i H s hi => by
    have hi' : i < xs.length := by rw [r.length]; exact hi
    exact ⟨xs, xs[i], sqt_mono s h, List.getElem?_eq_getElem hi'⟩
  yld := fun i H G x H' d s s' y e => by
    obtain ⟨rfl, y⟩ := y
    obtain ⟨v, h1, h2⟩ := r.get e
    have := y xs (sqt_mono (s.trans s') h)
    rw [h1] at this; cases this
    exact ⟨G, Same.refl _, Same.refl _, s', fun _ _ h => .inl h, h2.mono s⟩
theorem it_range {K : PySem.W.Frag} {F : Hp} (lo : Int) (n : Nat) : ItOk K (Itr lo n) F ((List.range n).map fun i => PyData.int (lo + (i : Nat))) where
  stop := fun H s => by simp [Itr]
  go := fun i H s hi => by simpa [Itr] using hi
  yld := fun i H G x H' d s s' y e => by
    obtain ⟨rfl, rfl⟩ := y
    simp only [List.getElem?_map] at e
    cases q : (List.range n)[i]? with
    | none => rw [q] at e; cases e
    | some j =>
      rw [q] at e
      obtain ⟨hl, hj⟩ := List.getElem?_eq_some_iff.mp q
      rw [List.getElem_range] at hj
      subst hj
      cases e
      exact ⟨G, Same.refl _, Same.refl _, s', fun _ _ h => .inl h, .int _⟩
/-- a list or a tuple -/
def iSeq (m : ME) : MI := fun env => (m env).bind fun p => (p.2.fix p.1).bind fun q => match q.2 with
  | .list ds => some (q.1, ds)
  | .tuple ds => some (q.1, ds)
  | _ => none
section
variable {X : Cx} {tg : Expr} {m ma mb : ME}
/-- where the walked thing is a list or a tuple shows by its value -/
theorem pi_either {l : Expr} {tl : TE} (hl : PE X l tl) : PI X tg l (fun σ H R => tl σ H fun x H1 => (∃ a, x = .ref a ∧ (∃ xs, SqL X.K H1 a xs) ∧ R (Itl X.K a) H1) ∨ ∃ a, x = .ref a ∧ (∃ xs, SqT X.K H1 a xs) ∧ R (Itt X.K a) H1) := by
  refine ⟨fun pins s σ H R I h => ?_⟩
  refine thn (hl.run pins s σ H _ I h) fun v s1 ⟨x, H1, I1, r1, q1⟩ => ?_
  rcases q1 with ⟨a, e, ⟨xs, hq⟩, q⟩ | ⟨a, e, ⟨xs, hq⟩, q⟩
  · subst e
    cases r1
    obtain ⟨its, rv, p, hz⟩ := I1.list hq
    refine wpAny_pyIter_list p.isList ?_
    refine ⟨s1.heap.objs.size, [s1.heap.objs.size], _, _, H1, rfl, I1.kept (t' := s1.toks) fun b o e => Heap.get?_push_of_some _ e, turn_list a _, ⟨_, Heap.get?_push_size _ rfl, rfl, rfl⟩, fun b hb => ?_, q⟩
    have e : b = s1.heap.objs.size := by simpa using hb
    subst e
    exact I1.fpOk (Nat.le_refl _) (I1.hok.fresh (Nat.le_refl _))
  · subst e
    cases r1
    obtain ⟨its, rv, p, hz⟩ := I1.tuple hq
    refine wpAny_pyIter_tuple (show s1.heap.IsTuple a its.toArray from p) ?_
    refine ⟨s1.heap.objs.size, [s1.heap.objs.size], _, _, H1, rfl, I1.kept (t' := s1.toks) fun b o e => Heap.get?_push_of_some _ e, turn_tuple a _, ⟨_, Heap.get?_push_size _ rfl, rfl, rfl⟩, fun b hb => ?_, q⟩
    have e : b = s1.heap.objs.size := by simpa using hb
    subst e
    exact I1.fpOk (Nat.le_refl _) (I1.hok.fresh (Nat.le_refl _))
theorem pi_imp {e : Expr} {t t' : TI} (h : PI X tg e t) (i : ∀ σ H R, t' σ H R → t σ H R) : PI X tg e t' := ⟨fun pins s σ H R I q => h.run pins s σ H R I (i σ H R q)⟩
theorem ri_seq {l : Expr} (hl : PE X l (tE X.K m)) : PI X tg l (tIt X.K (iSeq m)) := by
  refine pi_imp (pi_either hl) fun σ H R ⟨F, env, A, env', ds, em, k⟩ => ?_
  obtain ⟨⟨env1, r⟩, e1, em⟩ := bind_some em
  obtain ⟨⟨env2, d⟩, e2, em⟩ := bind_some em
  refine ⟨F, env, A, env1, r, e1, fun v F1 H1 A1 f1 o1 n1 => ?_⟩
  obtain ⟨F2, A2, f2, r2, s2⟩ := fix_one A1 f1 o1 n1 e2
  split at em
  · rename_i ds' e3
    cases em
    have e3' : d = .list ds := e3
    subst e3'
    cases r2 with
    | lst q r => exact .inl ⟨_, rfl, ⟨_, sql_mono A2.same q⟩, k _ F2 H1 A2 f2 (it_list q r)⟩
  · rename_i ds' e3
    cases em
    have e3' : d = .tuple ds := e3
    subst e3'
    cases r2 with
    | tup q r => exact .inr ⟨_, rfl, ⟨_, SqT.of (A2.same _ _ q)⟩, k _ F2 H1 A2 f2 (it_tup (SqT.of q) r)⟩
  · cases em
def intOf : RV → Option Int
  | .fz (.int i) => some i
  | _ => none
theorem intOf_some {r : RV} {i : Int} (h : intOf r = some i) : r = .fz (.int i) := by
  unfold intOf at h
  split at h
  · cases h; rfl
  · cases h
def iRange1 (m : ME) : MI := fun env => (m env).bind fun p => (intOf p.2).bind fun j => if -(2 ^ 62) ≤ j ∧ j < 2 ^ 62 then some (p.1, (List.range j.toNat).map fun i => PyData.int (0 + (i : Nat))) else none
def iRange2 (ma mb : ME) : MI := fun env => (ma env).bind fun p => (mb p.1).bind fun q => (intOf p.2).bind fun i => (intOf q.2).bind fun j =>
  if -(2 ^ 62) ≤ i ∧ i < 2 ^ 62 ∧ -(2 ^ 62) ≤ j ∧ j < 2 ^ 62 then some (q.1, (List.range (j - i).toNat).map fun k => PyData.int (i + (k : Nat))) else none
theorem ri_range1 {a : Expr} {p pos : Pos} (hg : Gl X "range") (hm : X.mg "range" = none) (ha : PE X a (tE X.K m)) (hs : starEach [a] X.env = [(false, eval a X.env)] := by rfl) (hs1 : starEach (a :: []) X.env = (false, eval a X.env) :: starEach [] X.env := by rfl) :
    PI X tg (.Call (.Name "range" p) [a] [] pos) (tIt X.K (iRange1 m)) := by
  refine pi_imp (pi_range1 hg hm (pa_cons ha pa_nil hs1) hs) fun σ H R ⟨F, env, A, env', ds, em, k⟩ => ?_
  obtain ⟨⟨env1, r⟩, e1, em⟩ := bind_some em
  obtain ⟨j, e2, em⟩ := bind_some em
  split at em
  · rename_i hb
    cases em
    have e2' := intOf_some e2
    have e2'' : r = .fz (.int j) := e2'
    subst e2''
    refine ⟨F, env, A, env1, _, e1, fun v F1 H1 A1 f1 o1 n1 => ?_⟩
    cases (show Rp X.K F1 v (.int j) from o1)
    exact ⟨j, rfl, hb.1, hb.2, k _ F1 H1 A1 f1 (it_range 0 j.toNat)⟩
  · cases em
theorem ri_range2 {a b : Expr} {p pos : Pos} (hg : Gl X "range") (hm : X.mg "range" = none) (ha : PE X a (tE X.K ma)) (hb : PE X b (tE X.K mb)) (hs : starEach [a, b] X.env = [(false, eval a X.env), (false, eval b X.env)] := by rfl) (hs2 : starEach [b] X.env = [(false, eval b X.env)] := by rfl)
    (hs1 : starEach (a :: [b]) X.env = (false, eval a X.env) :: starEach [b] X.env := by rfl) (hs3 : starEach (b :: []) X.env = (false, eval b X.env) :: starEach [] X.env := by rfl) :
    PI X tg (.Call (.Name "range" p) [a, b] [] pos) (tIt X.K (iRange2 ma mb)) := by
  refine pi_imp (pi_range2 hg hm (pa_cons ha (pa_cons hb pa_nil hs3) hs1) hs hs2) fun σ H R ⟨F, env, A, env', ds, em, k⟩ => ?_
  obtain ⟨⟨env1, r1⟩, e1, em⟩ := bind_some em
  obtain ⟨⟨env2, r2⟩, e2, em⟩ := bind_some em
  obtain ⟨i, e3, em⟩ := bind_some em
  obtain ⟨j, e4, em⟩ := bind_some em
  split at em
  · rename_i hb
    cases em
    have e3' : r1 = .fz (.int i) := intOf_some e3
    have e4' : r2 = .fz (.int j) := intOf_some e4
    subst e3' e4'
    refine ⟨F, env, A, env1, _, e1, fun v F1 H1 A1 f1 o1 n1 => ⟨F1, env1, A1, env2, _, e2, fun u F2 H2 A2 f2 o2 n2 => ?_⟩⟩
    cases (show Rp X.K F1 v (.int i) from o1)
    cases (show Rp X.K F2 u (.int j) from o2)
    exact ⟨i, j, rfl, hb, k _ F2 H2 A2 (f1.trans f2) (it_range i (j - i).toNat)⟩
  · cases em
end

/-! ### targets -/
abbrev MG := PyData → MEnv → Option MEnv
def gSlot (i : Nat) : MG := fun d env => (env[i]?).bind fun x => if x.lock = true then none else some (env.set i (.fz d))
/-- the same slots but those of is -/
def Off (is : List Nat) (σ σ' : L2.St) : Prop := σ'.length = σ.length ∧ ∀ j, j ∉ is → σ'[j]? = σ[j]?
theorem Off.refl (is : List Nat) (σ : L2.St) : Off is σ σ := ⟨rfl, fun _ _ => rfl⟩
theorem Off.set {i : Nat} {σ : L2.St} {x : Option V} : Off [i] σ (σ.set i x) := ⟨List.length_set, fun j hj => List.getElem?_set_ne fun z => hj (by rw [z]; exact List.mem_cons_self)⟩
theorem Off.trans {is js : List Nat} {σ σ1 σ2 : L2.St} (h : Off is σ σ1) (g : Off js σ1 σ2) : Off (is ++ js) σ σ2 := ⟨g.1.trans h.1, fun j hj => (g.2 j fun z => hj (List.mem_append_right _ z)).trans (h.2 j fun z => hj (List.mem_append_left _ z))⟩
theorem Off.mono {is js : List Nat} {σ σ1 : L2.St} (h : Off is σ σ1) (m : ∀ j ∈ is, j ∈ js) : Off js σ σ1 := ⟨h.1, fun j hj => h.2 j fun z => hj (m j z)⟩
/-- what a target makes of a frozen value -/
def tG (K : PySem.W.Frag) (is : List Nat) (g : MG) : TG := fun v σ H Q => ∃ F env d, Abs K F H σ env ∧ Rp K F v d ∧ ∃ env', g d env = some env' ∧ ∀ σ' F' H', Abs K F' H' σ' env' → Frm F H σ env F' H' σ' env' → Off is σ σ' → Q σ' H'
section
variable {K : PySem.W.Frag} {F H : Hp} {σ : L2.St} {env : MEnv}
theorem getSetV {σ : L2.St} {i j : Nat} {x : Option V} {y : Option V} (h : (σ.set i x)[j]? = some y) : (j = i ∧ y = x ∧ i < σ.length) ∨ (j ≠ i ∧ σ[j]? = some y) := by
  by_cases hj : j = i
  · subst hj
    by_cases hl : j < σ.length
    · rw [List.getElem?_set_self hl] at h
      exact .inl ⟨rfl, (Option.some.inj h).symm, hl⟩
    · rw [List.getElem?_eq_none (by rw [List.length_set]; omega)] at h
      cases h
  · rw [List.getElem?_set_ne (Ne.symm hj)] at h
    exact .inr ⟨hj, h⟩
/-- a slot is bound anew -/
theorem bind_slot (A : Abs K F H σ env) {i : Nat} {x y : SV} {v : V} (e : env[i]? = some x) (l : x.lock = false) (ly : y.lock = false) (hy : y.ok K F H (some (some v)))
    (hn : ∀ a, v = .ref a → (∃ d, y.isOwn = some d) → ¬ Owns σ env a) :
    Abs K F H (σ.set i (some v)) (env.set i y) ∧ ((∀ a, v = .ref a → (∃ d, y.isOwn = some d) → OwnsU σ env a ∨ H a = none) → Frm F H σ env F H (σ.set i (some v)) (env.set i y)) := by
  have hl : i < env.length := (List.getElem?_eq_some_iff.mp e).1
  have hlσ : i < σ.length := by rw [A.len]; exact hl
  have own1 : ∀ j b, OwnsAt (σ.set i (some v)) (env.set i y) j b → (j = i ∧ v = .ref b ∧ ∃ d, y.isOwn = some d) ∨ (j ≠ i ∧ OwnsAt σ env j b) := fun j b ⟨z, dz, e1, e2, e3⟩ => by
    rcases getSet e1 with ⟨rfl, rfl, _⟩ | ⟨hj, e1⟩
    · rw [List.getElem?_set_self hlσ] at e3
      exact .inl ⟨rfl, Option.some.inj (Option.some.inj e3), dz, e2⟩
    · rw [List.getElem?_set_ne (Ne.symm hj)] at e3
      exact .inr ⟨hj, z, dz, e1, e2, e3⟩
  refine ⟨⟨A.same, by rw [List.length_set, List.length_set]; exact A.len, fun j z ez => ?_, fun j l b h1 h2 => ?_⟩, fun hu => ⟨Same.refl _, fun a o h _ => h, fun a o h => ⟨o, h⟩, fun a o h => .inl h, fun b ⟨j, h⟩ => ?_, fun b ⟨j, z, h1, h2⟩ => ?_, fun j z e1 lz => ?_, by rw [List.length_set]⟩⟩
  · rcases getSet ez with ⟨rfl, rfl, _⟩ | ⟨hj, ez⟩
    · rw [List.getElem?_set_self hlσ]; exact hy
    · rw [List.getElem?_set_ne (Ne.symm hj)]; exact A.slot j z ez
  · rcases own1 j b h1 with ⟨ej, q1, q2⟩ | ⟨hj, g1⟩
    · rcases own1 l b h2 with ⟨el, _, _⟩ | ⟨hl', g2⟩
      · exact ej.trans el.symm
      · exact (hn b q1 q2 ⟨l, g2⟩).elim
    · rcases own1 l b h2 with ⟨el, q1, q2⟩ | ⟨hl', g2⟩
      · exact (hn b q1 q2 ⟨j, g1⟩).elim
      · exact A.inj j l b g1 g2
  · rcases own1 j b h with ⟨rfl, q1, q2⟩ | ⟨hj, h1⟩
    · rcases hu b q1 q2 with ⟨k, dk, g1, g2⟩ | z
      · exact .inl ⟨k, _, dk, g1, rfl, g2⟩
      · exact .inr z
    · exact .inl ⟨j, h1⟩
  · rcases getSet h1 with ⟨rfl, q, _⟩ | ⟨hj, h1⟩
    · rw [List.getElem?_set_self hlσ] at h2
      exact hu b (Option.some.inj (Option.some.inj h2)) ⟨z, by rw [← q]; rfl⟩
    · rw [List.getElem?_set_ne (Ne.symm hj)] at h2
      exact .inl ⟨j, z, h1, h2⟩
  · have hj : j ≠ i := fun q => by subst q; rw [e] at e1; cases e1; rw [l] at lz; cases lz
    exact ⟨by rw [List.getElem?_set_ne (Ne.symm hj)], z, by rw [List.getElem?_set_ne (Ne.symm hj)]; exact e1, lz⟩
theorem bind_frozen (A : Abs K F H σ env) {i : Nat} {x : SV} {v : V} {d : PyData} (e : env[i]? = some x) (l : x.lock = false) (r : Rp K F v d) :
    Abs K F H (σ.set i (some v)) (env.set i (.fz d)) ∧ Frm F H σ env F H (σ.set i (some v)) (env.set i (.fz d)) := by
  obtain ⟨h1, h2⟩ := bind_slot (y := .fz d) A e l rfl ⟨v, rfl, r⟩ fun a _ ⟨z, q⟩ => by cases q
  exact ⟨h1, h2 fun a _ ⟨z, q⟩ => by cases q⟩
theorem gSlot_some {i : Nat} {d : PyData} {env' : MEnv} (h : gSlot i d env = some env') : ∃ x, env[i]? = some x ∧ x.lock = false ∧ env' = env.set i (.fz d) := by
  obtain ⟨x, e, h⟩ := bind_some h
  split at h
  · cases h
  · rename_i hl
    exact ⟨x, e, by cases q : x.lock <;> simp_all, (Option.some.inj h).symm⟩
end
section
variable {X : Cx}
theorem pg_imp {e : Expr} {t t' : TG} (h : PG X e t) (i : ∀ v σ H Q, t' v σ H Q → t v σ H Q) : PG X e t' := ⟨fun pins s σ H v u Q I r q => h.run pins s σ H v u Q I r (i v σ H Q q)⟩
theorem pgs_imp {e : List Expr} {t t' : TGs} (h : PGs X e t) (i : ∀ v σ H Q, t' v σ H Q → t v σ H Q) : PGs X e t' := ⟨fun pins s σ H v u Q I r q => h.run pins s σ H v u Q I r (i v σ H Q q)⟩
theorem rg_slot {i : Nat} {e : Expr} (h : PG X e (gName i)) : PG X e (tG X.K [i] (gSlot i)) := by
  refine pg_imp h fun v σ H Q ⟨F, env, d, A, r, env', em, k⟩ => ?_
  obtain ⟨x, e, l, rfl⟩ := gSlot_some em
  obtain ⟨A', f'⟩ := bind_frozen A e l r
  exact k _ F H A' f' Off.set
abbrev MGs := List PyData → MEnv → Option MEnv
def gsNil : MGs := fun ds env => match ds with
  | [] => some env
  | _ => none
def gsCons (g : MG) (gs : MGs) : MGs := fun ds env => match ds with
  | d :: ds => (g d env).bind fun env1 => gs ds env1
  | [] => none
def tGs (K : PySem.W.Frag) (is : List Nat) (g : MGs) : TGs := fun vs σ H Q => ∃ F env ds, Abs K F H σ env ∧ RpAll K F vs ds ∧ ∃ env', g ds env = some env' ∧ ∀ σ' F' H', Abs K F' H' σ' env' → Frm F H σ env F' H' σ' env' → Off is σ σ' → Q σ' H'
theorem rgs_nil : PGs X [] (tGs X.K [] gsNil) := by
  refine pgs_imp pgs_nil fun vs σ H Q ⟨F, env, ds, A, r, env', em, k⟩ => ?_
  cases r with
  | nil => cases em; exact ⟨rfl, k σ F H A (Frm.refl _ _ _ _) (Off.refl _ _)⟩
  | cons _ _ => cases em
theorem rgs_cons {e : Expr} {es : List Expr} {is js : List Nat} {g : MG} {gs : MGs} (h1 : PG X e (tG X.K is g)) (h2 : PGs X es (tGs X.K js gs))
    (hs : (assignEach (e :: es) X.env).map (·.2) = assign e X.env :: (assignEach es X.env).map (·.2) := by rfl) : PGs X (e :: es) (tGs X.K (is ++ js) (gsCons g gs)) := by
  refine pgs_imp (pgs_cons h1 h2 hs) fun vs σ H Q ⟨F, env, ds, A, r, env', em, k⟩ => ?_
  cases r with
  | nil => cases em
  | cons r1 r2 =>
    obtain ⟨env1, e1, em⟩ := bind_some em
    exact ⟨_, _, rfl, F, env, _, A, r1, env1, e1, fun σ1 F1 H1 A1 f1 g1 => ⟨F1, env1, _, A1, r2.mono f1.sameF, env', em, fun σ2 F2 H2 A2 f2 g2 => k σ2 F2 H2 A2 (f1.trans f2) (g1.trans g2)⟩⟩
/-- (a, b, ..) = a tuple -/
def gUnp (n : Nat) (gs : MGs) : MG := fun d env => match d with
  | .tuple ds => if ds.length = n then gs ds env else none
  | _ => none
theorem rg_tup {es : List Expr} {k : Nat} {is : List Nat} {gs : MGs} {n : Nat} {pos : Pos} (hc : X.calm = true) (h : PGs X es (tGs X.K is gs)) (hn : (assignEach es X.env).length = n := by rfl) (hst : (assignEach es X.env).findIdx? (·.1) = none := by rfl) :
    PG X (.Tuple es k pos) (tG X.K is (gUnp n gs)) := by
  refine pg_imp (pg_tup hc h hn hst) fun v σ H Q ⟨F, env, d, A, r, env', em, kk⟩ => ?_
  unfold gUnp at em
  split at em
  · rename_i ds
    split at em
    · rename_i hl
      cases r with
      | tup q r => exact ⟨_, _, rfl, SqT.of (A.same _ _ q), by rw [r.length]; exact hl, F, env, ds, A, r, env', em, kk⟩
    · cases em
  · cases em
end

/-! ### list comprehensions -/
def wipeE (env : MEnv) : List Nat → MEnv
  | [] => env
  | i :: is => (wipeE env is).set i .unb
def backE (old env : MEnv) : List Nat → MEnv
  | [] => env
  | i :: is => (backE old env is).set i (old.getD i .unb)
def unlocked (env : MEnv) (is : List Nat) : Bool := is.all fun i => match env[i]? with
  | some x => !x.lock
  | none => false
def lcLoop (g : MG) (t : MT) (m : ME) (vs : List Nat) : List PyData → MEnv → List PyData → Option (MEnv × List PyData)
  | [], env, acc => some (env, acc)
  | d :: ds, env, acc => (g d env).bind fun env1 => (t env1).bind fun p => if p.2 = true then
      (m p.1).bind fun q => (q.2.fix q.1).bind fun s => if acc.length < lineN then lcLoop g t m vs ds (wipeE s.1 vs) (acc ++ [s.2]) else none
    else lcLoop g t m vs ds (wipeE p.1 vs) acc
def eLc (vs : List Nat) (g : MG) (mi : MI) (t : MT) (m : ME) : ME := fun env => (mi env).bind fun p => if unlocked p.1 vs = true then
    (lcLoop g t m vs p.2 (wipeE p.1 vs) []).bind fun q => some (backE p.1 q.1 vs, .own (.list q.2))
  else none
def mYes : MT := fun env => some (env, true)
end L3

/-! L3D: list comprehensions hold what eLc says. -/
namespace L3
open PySem PySem.Spec PyProof.Rows L2

section
variable {K : PySem.W.Frag} {F H F1 H1 F2 H2 : Hp} {σ σ2 : L2.St} {env env1 e2 : MEnv} {vs : List Nat}
theorem wipeE_length (env : MEnv) : ∀ vs : List Nat, (wipeE env vs).length = env.length
  | [] => rfl
  | v :: vs => by unfold wipeE; rw [List.length_set, wipeE_length env vs]
theorem wipeE_out {i : Nat} : ∀ {vs : List Nat}, i ∉ vs → (wipeE env vs)[i]? = env[i]?
  | [], _ => rfl
  | v :: vs, h => by
    unfold wipeE
    rw [List.getElem?_set_ne fun e => h (by rw [e]; exact List.mem_cons_self)]
    exact wipeE_out fun m => h (List.mem_cons_of_mem _ m)
theorem wipeE_in {i : Nat} : ∀ {vs : List Nat}, i ∈ vs → ∀ x, (wipeE env vs)[i]? = some x → x = .unb
  | v :: vs, h, x, e => by
    unfold wipeE at e
    rcases getSet e with ⟨_, q, _⟩ | ⟨hj, e⟩
    · exact q
    · rcases List.mem_cons.mp h with q | h
      · exact (hj q).elim
      · exact wipeE_in h x e
theorem backE_length (old env : MEnv) : ∀ vs : List Nat, (backE old env vs).length = env.length
  | [] => rfl
  | v :: vs => by unfold backE; rw [List.length_set, backE_length old env vs]
theorem backE_out {old : MEnv} {i : Nat} : ∀ {vs : List Nat}, i ∉ vs → (backE old env vs)[i]? = env[i]?
  | [], _ => rfl
  | v :: vs, h => by
    unfold backE
    rw [List.getElem?_set_ne fun e => h (by rw [e]; exact List.mem_cons_self)]
    exact backE_out fun m => h (List.mem_cons_of_mem _ m)
theorem backE_in {old : MEnv} {i : Nat} : ∀ {vs : List Nat}, i ∈ vs → ∀ x, (backE old env vs)[i]? = some x → old.length = env.length → old[i]? = some x
  | v :: vs, h, x, e, hl => by
    unfold backE at e
    rcases getSet e with ⟨q, q2, hb⟩ | ⟨hj, e⟩
    · subst q
      rw [backE_length] at hb
      rw [q2, List.getD_eq_getElem?_getD, List.getElem?_eq_getElem (by omega)]
      rfl
    · rcases List.mem_cons.mp h with q | h
      · exact (hj q).elim
      · exact backE_in h x e hl
theorem wipe_off {σ σ2 : L2.St} {is vs : List Nat} (h : Off is (wipe σ vs) σ2) (m : ∀ j ∈ is, j ∈ vs) : wipe σ2 vs = wipe σ vs := by
  refine List.ext_getElem? fun j => ?_
  by_cases hj : j ∈ vs
  · have non : ∀ τ : L2.St, (wipe τ vs)[j]? = if j < τ.length then some none else none := fun τ => by
      by_cases hl : j < τ.length
      · rw [if_pos hl]
        cases q : (wipe τ vs)[j]? with
        | none => rw [List.getElem?_eq_none_iff, wipe_length] at q; omega
        | some y =>
          cases y with
          | none => rfl
          | some v => exact ((wipe_some q).2 hj).elim
      · rw [if_neg hl, List.getElem?_eq_none (by rw [wipe_length]; omega)]
    have hl : σ2.length = σ.length := by rw [h.1, wipe_length]
    rw [non, non, hl]
  · rw [wipe_out hj, h.2 j fun z => hj (m j z)]

theorem abs_wipe (A : Abs K F H σ env) (vs : List Nat) : Abs K F H (wipe σ vs) (wipeE env vs) := by
  have own1 : ∀ j b, OwnsAt (wipe σ vs) (wipeE env vs) j b → OwnsAt σ env j b := fun j b ⟨x, d, h1, h2, h3⟩ => by
    by_cases hj : j ∈ vs
    · have := wipeE_in hj x h1
      subst this
      cases h2
    · rw [wipeE_out hj] at h1
      rw [wipe_out hj] at h3
      exact ⟨x, d, h1, h2, h3⟩
  refine ⟨A.same, by rw [wipe_length, wipeE_length]; exact A.len, fun j x e => ?_, fun i j a h1 h2 => A.inj i j a (own1 i a h1) (own1 j a h2)⟩
  by_cases hj : j ∈ vs
  · have := wipeE_in hj x e
    subst this
    trivial
  · rw [wipeE_out hj] at e
    rw [wipe_out hj]
    exact A.slot j x e
/-- a block's turn ends: its names are forgotten -/
theorem frm_wipe (f : Frm F1 H1 (wipe σ vs) (wipeE env vs) F H σ2 e2) (hw : wipe σ2 vs = wipe σ vs) : Frm F1 H1 (wipe σ vs) (wipeE env vs) F H (wipe σ vs) (wipeE e2 vs) := by
  have out : ∀ j, j ∉ vs → (wipe σ vs)[j]? = σ2[j]? := fun j hj => by rw [← hw, wipe_out hj]
  refine ⟨f.sameF, f.keep, f.there, f.new, fun a ⟨j, x, d, h1, h2, h3⟩ => ?_, fun a ⟨j, d, h1, h3⟩ => ?_, fun j x e l => ?_, by rw [wipeE_length]; exact f.len⟩
  · by_cases hj : j ∈ vs
    · have := wipeE_in hj x h1
      subst this
      cases h2
    · rw [wipeE_out hj] at h1
      rw [out j hj] at h3
      exact f.own a ⟨j, x, d, h1, h2, h3⟩
  · by_cases hj : j ∈ vs
    · cases wipeE_in hj _ h1
    · rw [wipeE_out hj] at h1
      rw [out j hj] at h3
      exact f.ownU a ⟨j, d, h1, h3⟩
  · have hj : j ∉ vs := fun hj => by
      have := wipeE_in hj x e
      subst this
      cases l
    obtain ⟨_, x', h1, h2⟩ := f.lock j x e l
    exact ⟨rfl, x', by rw [wipeE_out hj]; exact h1, h2⟩
/-- behind the block: its names are what they were -/
theorem block_back (A1 : Abs K F1 H1 σ env1) (hu : unlocked env1 vs = true) (A : Abs K F H (wipe σ vs) env) (f : Frm F1 H1 (wipe σ vs) (wipeE env1 vs) F H (wipe σ vs) env) :
    Abs K F H σ (backE env1 env vs) ∧ Frm F1 H1 σ env1 F H σ (backE env1 env vs) := by
  have hl : env1.length = env.length := by rw [f.len, wipeE_length]
  have un : ∀ j ∈ vs, ∀ x, env1[j]? = some x → x.lock = false := fun j hj x e => by
    unfold unlocked at hu
    rw [List.all_eq_true] at hu
    have := hu j hj
    rw [e] at this
    simpa using this
  have notW : ∀ j a, j ∈ vs → OwnsAt σ env1 j a → ¬ Owns (wipe σ vs) (wipeE env1 vs) a := fun j a hj h ⟨i, x, d, h1, h2, h3⟩ => by
    have hi : i ∉ vs := fun hi => by
      have := wipeE_in hi x h1
      subst this
      cases h2
    rw [wipeE_out hi] at h1
    rw [wipe_out hi] at h3
    exact hi (A1.inj i j a ⟨x, d, h1, h2, h3⟩ h ▸ hj)
  have wOwn : ∀ a, Owns (wipe σ vs) (wipeE env1 vs) a → Owns σ env1 a := fun a ⟨i, x, d, h1, h2, h3⟩ => by
    have hi : i ∉ vs := fun hi => by
      have := wipeE_in hi x h1
      subst this
      cases h2
    rw [wipeE_out hi] at h1
    rw [wipe_out hi] at h3
    exact ⟨i, x, d, h1, h2, h3⟩
  have case1 : ∀ j a, OwnsAt σ (backE env1 env vs) j a → (j ∈ vs ∧ OwnsAt σ env1 j a) ∨ (j ∉ vs ∧ OwnsAt (wipe σ vs) env j a) := fun j a ⟨x, d, h1, h2, h3⟩ => by
    by_cases hj : j ∈ vs
    · exact .inl ⟨hj, x, d, backE_in hj x h1 hl, h2, h3⟩
    · rw [backE_out hj] at h1
      exact .inr ⟨hj, x, d, h1, h2, by rw [wipe_out hj]; exact h3⟩
  have there1 : ∀ j a, OwnsAt σ env1 j a → ∃ o, H1 a = some o := fun j a h => (A1.ownsF ⟨j, h⟩).2
  refine ⟨⟨A.same, by rw [backE_length, ← A.len, wipe_length], fun j x e => ?_, fun i j a h1 h2 => ?_⟩, ⟨f.sameF, fun a o h n => f.keep a o h fun z => n (wOwn a z), f.there, fun a o h => ?_, fun a ⟨j, h⟩ => ?_, fun a ⟨j, d, h1, h3⟩ => ?_, fun j x e l => ?_, by rw [backE_length, hl]⟩⟩
  · by_cases hj : j ∈ vs
    · have e' := backE_in hj x e hl
      have h := A1.slot j x e'
      have own : ∀ d, x.isOwn = some d → (∃ a, σ[j]? = some (some (.ref a)) ∧ F1 a = none ∧ OwnC K F1 H1 a d) → ∃ a, σ[j]? = some (some (.ref a)) ∧ F a = none ∧ OwnC K F H a d := fun d o ⟨a, q, fa, c⟩ => by
        have nw := notW j a hj ⟨x, d, e', o, q⟩
        refine ⟨a, q, ?_, c.keep f.sameF fun u hu => f.keep a u hu nw⟩
        cases z : F a with
        | none => rfl
        | some u =>
          rcases f.new a u z with z | z | z
          · rw [fa] at z; cases z
          · obtain ⟨o', ho⟩ := c.there
            rw [ho] at z; cases z
          · exact (nw z).elim
      cases x with
      | unb => trivial
      | fz d => obtain ⟨v, q, r⟩ := h; exact ⟨v, q, r.mono f.sameF⟩
      | rfz d => obtain ⟨v, q, r⟩ := h; exact ⟨v, q, r.mono f.sameF⟩
      | own d => exact own d rfl h
      | ref d => exact own d rfl h
    · rw [backE_out hj] at e
      have := A.slot j x e
      rw [wipe_out hj] at this
      exact this
  · rcases case1 i a h1 with ⟨hi, g1⟩ | ⟨hi, g1⟩
    · rcases case1 j a h2 with ⟨hj, g2⟩ | ⟨hj, g2⟩
      · exact A1.inj i j a g1 g2
      · rcases f.own a ⟨j, g2⟩ with z | z
        · exact (notW i a hi g1 z).elim
        · obtain ⟨o, ho⟩ := there1 i a g1
          rw [ho] at z; cases z
    · rcases case1 j a h2 with ⟨hj, g2⟩ | ⟨hj, g2⟩
      · rcases f.own a ⟨i, g1⟩ with z | z
        · exact (notW j a hj g2 z).elim
        · obtain ⟨o, ho⟩ := there1 j a g2
          rw [ho] at z; cases z
      · exact A.inj i j a g1 g2
  · rcases f.new a o h with z | z | z
    · exact .inl z
    · exact .inr (.inl z)
    · exact .inr (.inr (wOwn a z))
  · rcases case1 j a h with ⟨hj, g⟩ | ⟨hj, g⟩
    · exact .inl ⟨j, g⟩
    · rcases f.own a ⟨j, g⟩ with z | z
      · exact .inl (wOwn a z)
      · exact .inr z
  · by_cases hj : j ∈ vs
    · exact .inl ⟨j, d, backE_in hj _ h1 hl, h3⟩
    · rw [backE_out hj] at h1
      rcases f.ownU a ⟨j, d, h1, by rw [wipe_out hj]; exact h3⟩ with ⟨i, d', g1, g3⟩ | z
      · have hi : i ∉ vs := fun hi => by cases wipeE_in hi _ g1
        rw [wipeE_out hi] at g1
        rw [wipe_out hi] at g3
        exact .inl ⟨i, d', g1, g3⟩
      · exact .inr z
  · have hj : j ∉ vs := fun hj => by rw [un j hj x e] at l; cases l
    obtain ⟨_, x', h1, h2⟩ := f.lock j x (by rw [wipeE_out hj]; exact e) l
    exact ⟨rfl, x', by rw [backE_out hj]; exact h1, h2⟩
end

section
variable {K : PySem.W.Frag} {F H F1 H1 : Hp} {σ σ1 : L2.St} {env env1 : MEnv}
theorem owns_wipe {vs : List Nat} {a : Addr} (h : Owns (wipe σ vs) (wipeE env vs) a) : Owns σ env a := by
  obtain ⟨i, x, d, h1, h2, h3⟩ := h
  have hi : i ∉ vs := fun hi => by
    have := wipeE_in hi x h1
    subst this
    cases h2
  rw [wipeE_out hi] at h1
  rw [wipe_out hi] at h3
  exact ⟨i, x, d, h1, h2, h3⟩
/-- what nobody owns and nothing frozen knows changes -/
theorem abs_other {a : Addr} {o : HO} (A : Abs K F H σ env) (fa : F a = none) (n : ¬ Owns σ env a) : Abs K F (upd H a o) σ env := by
  refine ⟨fun b u q => by rw [upd_ne (ne_of_none q fa)]; exact A.same b u q, A.len, fun j x e => ?_, A.inj⟩
  have h := A.slot j x e
  have own : ∀ d, x.isOwn = some d → (∃ b, σ[j]? = some (some (.ref b)) ∧ F b = none ∧ OwnC K F H b d) → ∃ b, σ[j]? = some (some (.ref b)) ∧ F b = none ∧ OwnC K F (upd H a o) b d := fun d hd ⟨b, q, f, c⟩ => by
    have hb : b ≠ a := fun z => by subst z; exact n ⟨j, x, d, e, hd, q⟩
    exact ⟨b, q, f, c.keep (Same.refl _) fun u hu => by rw [upd_ne hb]; exact hu⟩
  cases x with
  | unb => trivial
  | fz d => exact h
  | rfz d => exact h
  | own d => exact own d rfl h
  | ref d => exact own d rfl h
theorem frm_other {a : Addr} {o : HO} (f : Frm F1 H1 σ1 env1 F H σ env) (h1 : H1 a = none) : Frm F1 H1 σ1 env1 F (upd H a o) σ env := by
  refine ⟨f.sameF, fun b u q n => by rw [upd_ne (ne_of_none q h1)]; exact f.keep b u q n, fun b u q => by rw [upd_ne (ne_of_none q h1)]; exact f.there b u q, f.new, f.own, f.ownU, f.lock, f.len⟩
theorem RV.isNew.fwd {r : RV} {v : V} (h : r.isNew H1 v) (t : ∀ a o, H a = some o → ∃ o', H1 a = some o') : r.isNew H v := by
  cases r with
  | fz d => trivial
  | plc i => trivial
  | own d =>
    obtain ⟨a, e, n⟩ := h
    refine ⟨a, e, ?_⟩
    cases q : H a with
    | none => rfl
    | some u =>
      obtain ⟨o, h1⟩ := t a u q
      rw [n] at h1; cases h1
end

section
variable {X : Cx}
theorem lc_to {K : PySem.W.Frag} {vs is : List Nat} {g : MG} {mi : MI} {t : MT} {m : ME} (hi : ∀ j ∈ is, j ∈ vs) {σ : L2.St} {H : Hp} {Q : VK} (h : tE K (eLc vs g mi t m) σ H Q) :
    tLc (tIt K mi) (tG K is g) (tT K t) (tE K m) vs σ H Q := by
  obtain ⟨F, env, A, env', r, em, k⟩ := h
  obtain ⟨⟨env1, ds⟩, e1, em⟩ := bind_some em
  split at em
  case isFalse => cases em
  rename_i hun
  obtain ⟨⟨env2, accE⟩, e2, em⟩ := bind_some em
  cases em
  refine ⟨F, env, A, env1, ds, e1, fun J F1 H1 A1 f1 it D hD => ?_⟩
  have A0 : Abs K F1 H1 (wipe σ vs) (wipeE env1 vs) := abs_wipe A1 vs
  have fD : F1 D = none := A1.same.free hD
  have sD : Same H1 (upd H1 D (.lst [])) := fun b o q => by rw [upd_ne (ne_of_none q hD)]; exact q
  obtain ⟨A0', f0'⟩ := grow A0 (Same.refl F1) sD (A1.same.trans sD) fun _ _ h => .inl h
  have nD0 : ¬ Owns (wipe σ vs) (wipeE env1 vs) D := fun z => by
    obtain ⟨_, o, ho⟩ := A0.ownsF z
    rw [hD] at ho; cases ho
  refine ⟨fun i mm H' => mm = ds.length - i ∧ i ≤ ds.length ∧ ∃ (F' : Hp) (e' : MEnv) (acc : List PyData) (xs : List V), Abs K F' H' (wipe σ vs) e' ∧ Frm F1 H1 (wipe σ vs) (wipeE env1 vs) F' H' (wipe σ vs) e' ∧
    H' D = some (.lst xs) ∧ F' D = none ∧ RpAll K F' xs acc ∧ ¬ Owns (wipe σ vs) e' D ∧ lcLoop g t m vs (ds.drop i) e' acc = some (env2, accE), ⟨ds.length, by omega, Nat.zero_le _, F1, wipeE env1 vs, [], [], A0', f0', upd_same, fD, .nil, nD0, e2⟩, ?_⟩
  rintro i mm H' ⟨rfl, hle, F', e', acc, xs, A', f', hx, fx, rx, nx, el⟩
  have sF1 : Same F1 H' := f'.sameF.trans A'.same
  by_cases hlt : i < ds.length
  · have hd : ds[i]? = some ds[i] := List.getElem?_eq_getElem hlt
    have edrop : ds.drop i = ds[i] :: ds.drop (i + 1) := List.drop_eq_getElem_cons hlt
    rw [edrop] at el
    obtain ⟨ea, g1, el⟩ := bind_some el
    obtain ⟨⟨eb, b⟩, g2, el⟩ := bind_some el
    refine .inr ⟨it.go i H' sF1 hlt, fun H3 => ∃ (F' : Hp) (e' : MEnv) (acc : List PyData) (xs : List V), Abs K F' H3 (wipe σ vs) e' ∧ Frm F1 H1 (wipe σ vs) (wipeE env1 vs) F' H3 (wipe σ vs) e' ∧
      H3 D = some (.lst xs) ∧ F' D = none ∧ RpAll K F' xs acc ∧ ¬ Owns (wipe σ vs) e' D ∧ lcLoop g t m vs (ds.drop (i + 1)) e' acc = some (env2, accE), fun H3 q => ⟨ds.length - (i + 1), by omega, rfl, hlt, q⟩, fun x H3 hy => ?_⟩
    obtain ⟨G, sG, sH, sGH, nG, rG⟩ := it.yld i H' F' x H3 ds[i] f'.sameF A'.same hy hd
    obtain ⟨A3, f3⟩ := grow A' sG sH sGH nG
    have keepD : ∀ {F4 H4 : Hp} {σ4 : L2.St} {e4 : MEnv}, Frm F' H' (wipe σ vs) e' F4 H4 σ4 e4 → H4 D = some (.lst xs) ∧ F4 D = none ∧ RpAll K F4 xs acc ∧ ¬ Owns σ4 e4 D := fun {F4 H4 σ4 e4} ff => by
      refine ⟨ff.keep D _ hx nx, ?_, rx.mono ff.sameF, fun z => ?_⟩
      · cases q : F4 D with
        | none => rfl
        | some u =>
          rcases ff.new D u q with z | z | z
          · rw [fx] at z; cases z
          · rw [hx] at z; cases z
          · exact (nx z).elim
      · rcases ff.own D z with z | z
        · exact nx z
        · rw [hx] at z; cases z
    refine ⟨G, e', ds[i], A3, rG, ea, g1, fun σ4 F4 H4 A4 f4 o4 => ⟨wipe_off o4 hi, F4, ea, A4, eb, b, g2, fun F5 H5 A5 f5 => ?_⟩⟩
    have hw := wipe_off o4 hi
    have ff5 := (f3.trans f4).trans f5
    cases b with
    | false =>
      refine ite2 (fun z => by cases z) fun _ => ?_
      have el' : lcLoop g t m vs (ds.drop (i + 1)) (wipeE eb vs) acc = some (env2, accE) := el
      obtain ⟨d1, d2, d3, d4⟩ := keepD ff5
      have A6 := abs_wipe A5 vs
      rw [hw] at A6
      exact ⟨F5, wipeE eb vs, acc, xs, A6, frm_wipe (f'.trans ff5) hw, d1, d2, d3, fun z => d4 (owns_wipe (by rw [hw]; exact z)), el'⟩
    | true =>
      refine ite2 (fun _ => ?_) fun z => (z rfl).elim
      have el' : ((m eb).bind fun q => (q.2.fix q.1).bind fun s => if acc.length < lineN then lcLoop g t m vs (ds.drop (i + 1)) (wipeE s.1 vs) (acc ++ [s.2]) else none) = some (env2, accE) := el
      obtain ⟨⟨ec, r⟩, g3, el'⟩ := bind_some el'
      obtain ⟨⟨ed, d'⟩, g4, el'⟩ := bind_some el'
      split at el'
      case isFalse => cases el'
      rename_i hz
      refine ⟨F5, eb, A5, ec, r, g3, fun y F6 H6 A6 f6 o6 n6 => ?_⟩
      have ff6 := ff5.trans f6
      obtain ⟨F7, A7, f7, r7, s7⟩ := fix_one A6 ff6 o6 (n6.fwd ff5.there) g4
      obtain ⟨d1, d2, d3, d4⟩ := keepD f7
      have hlen : xs.length < sizeLine := by rw [d3.length, ← lineN_eq]; exact hz
      refine ⟨xs, d1, hlen, ?_⟩
      have A8 := abs_wipe (abs_other (o := .lst (xs ++ [y])) A7 d2 d4) vs
      rw [hw] at A8
      refine ⟨F7, wipeE ed vs, acc ++ [d'], xs ++ [y], A8, frm_other (frm_wipe (f'.trans f7) hw) hD, upd_same, d2, d3.append (.cons r7 .nil), fun z => d4 (owns_wipe (by rw [hw]; exact z)), el'⟩
  · have ei : i = ds.length := by omega
    subst ei
    rw [List.drop_length] at el
    cases el
    obtain ⟨A9, f9⟩ := block_back A1 hun A' f'
    refine .inl ⟨it.stop H' sF1, k (.ref D) F' H' A9 (f1.trans f9) ⟨D, rfl, fx, ⟨xs, hx, rx⟩, fun zz => ?_⟩ ⟨D, rfl, ?_⟩⟩
    · rcases f9.own D zz with z | z
      · obtain ⟨_, o, ho⟩ := A1.ownsF z
        rw [hD] at ho; cases ho
      · obtain ⟨j, x, d, h1, h2, h3⟩ := zz
        by_cases hj : j ∈ vs
        · have e9 := backE_in hj x h1 (by rw [f'.len, wipeE_length])
          obtain ⟨_, o, ho⟩ := A1.ownsF ⟨j, x, d, e9, h2, h3⟩
          rw [hD] at ho; cases ho
        · rw [backE_out hj] at h1
          exact nx ⟨j, x, d, h1, h2, by rw [wipe_out hj]; exact h3⟩
    · cases q : H D with
      | none => rfl
      | some u =>
        obtain ⟨o, h1⟩ := f1.there D u q
        rw [hD] at h1; cases h1
theorem rts_yes {X : Cx} : PTs X [] (tT X.K mYes) := ⟨fun pins s σ H Q I h => pts_nil.run pins s σ H Q I (tT_done (b := true) h)⟩
theorem rts_one {X : Cx} {c : Expr} {t : MT} (h : PT X c (tT X.K t)) : PTs X [c] (tT X.K t) := pts_one h
theorem re_lc {elt tg iter : Expr} {ifs : List Expr} {scope : Scope} {own : List (Str × Nat)} {is : List Nat} {pos : Pos} {g : MG} {mi : MI} {t : MT} {m : ME} (hc : X.calm = true) (hN : X.N.Nodup) (hi : PI X tg iter (tIt X.K mi)) (ok : BlkOk X.N X.env.scope scope own) (hv : ∀ j ∈ is, j ∈ own.map (·.2))
    (hg : ∀ (s : Shared) (H : Hp) (C : Addr) (cl : List (Str × Addr)) (fp : List Addr), PG (X.blk s H scope (compEnvC scope cl C X.env) fp) tg (tG X.K is g)) (ht : ∀ (s : Shared) (H : Hp) (C : Addr) (cl : List (Str × Addr)) (fp : List Addr), PTs (X.blk s H scope (compEnvC scope cl C X.env) fp) ifs (tT X.K t))
    (he : ∀ (s : Shared) (H : Hp) (C : Addr) (cl : List (Str × Addr)) (fp : List Addr), PE (X.blk s H scope (compEnvC scope cl C X.env) fp) elt (tE X.K m)) (hs : ∀ x, foldedSetIterable iter X.env x = pure x := by intro _; rfl) :
    PE X (.ListComp elt [⟨tg, iter, ifs, 0⟩] scope pos) (tE X.K (eLc (own.map (·.2)) g mi t m)) :=
  pe_imp (pe_lc hc hN hi ok hg ht he hs) fun _ _ _ => lc_to hv
end
end L3

/-! L3E: statements, loops, calls of the text's own defs. -/
namespace L3
open PySem PySem.Spec PyProof.Rows L2

inductive Out where
  | nx (env : MEnv)
  | rt (r : RV) (env : MEnv)
  | bk (env : MEnv)
  | ct (env : MEnv)
abbrev MS := MEnv → Option Out
/-- what is handed back: frozen, or owned and new -/
def retOk (H : Hp) (σ : L2.St) (env : MEnv) (v : V) : RV → Prop
  | .fz _ => True
  | .own _ => ∃ a, v = .ref a ∧ (OwnsU σ env a ∨ H a = none)
  | .plc _ => False
def OutK (K : PySem.W.Frag) (F H : Hp) (σ : L2.St) (env : MEnv) (D : Ends) : Out → Prop
  | .nx e => ∀ σ' F' H', Abs K F' H' σ' e → Frm F H σ env F' H' σ' e → D.nx σ' H'
  | .bk e => ∀ σ' F' H', Abs K F' H' σ' e → Frm F H σ env F' H' σ' e → D.bk σ' H'
  | .ct e => ∀ σ' F' H', Abs K F' H' σ' e → Frm F H σ env F' H' σ' e → D.ct σ' H'
  | .rt r e => ∀ v σ' F' H', Abs K F' H' σ' e → Frm F H σ env F' H' σ' e → r.ok K F' H' σ' e v → retOk H σ env v r → D.rt v H'
def tS (K : PySem.W.Frag) (m : MS) : TS := fun D σ H => ∃ F env, Abs K F H σ env ∧ ∃ o, m env = some o ∧ OutK K F H σ env D o
section
variable {K : PySem.W.Frag} {F H F1 H1 : Hp} {σ σ1 : L2.St} {env env1 : MEnv} {D : Ends} {o : Out} {v : V} {r : RV}
theorem retOk.back (h : retOk H1 σ1 env1 v r) (f : Frm F H σ env F1 H1 σ1 env1) : retOk H σ env v r := by
  cases r with
  | fz d => trivial
  | plc i => exact h.elim
  | own d =>
    obtain ⟨a, e, z⟩ := h
    refine ⟨a, e, ?_⟩
    rcases z with z | z
    · exact f.ownU a z
    · refine .inr ?_
      cases q : H a with
      | none => rfl
      | some u =>
        obtain ⟨o, h1⟩ := f.there a u q
        rw [z] at h1; cases h1
theorem OutK.back (h : OutK K F H σ env D o) (f : Frm F H σ env F1 H1 σ1 env1) : OutK K F1 H1 σ1 env1 D o := by
  cases o with
  | nx e => exact fun σ' F' H' A' f' => h σ' F' H' A' (f.trans f')
  | bk e => exact fun σ' F' H' A' f' => h σ' F' H' A' (f.trans f')
  | ct e => exact fun σ' F' H' A' f' => h σ' F' H' A' (f.trans f')
  | rt r e => exact fun v σ' F' H' A' f' o' z => h v σ' F' H' A' (f.trans f') o' (z.back f)
end
theorem ps_imp {X : Cx} {s : Stmt} {t t' : TS} (h : PS X s t) (i : ∀ D σ H, t' D σ H → t D σ H) : PS X s t' := ⟨fun pins s σ H D I q => h.run pins s σ H D I (i D σ H q)⟩
theorem pss_imp {X : Cx} {s : List Stmt} {t t' : TS} (h : PSs X s t) (i : ∀ D σ H, t' D σ H → t D σ H) : PSs X s t' := ⟨fun pins s σ H D I q => h.run pins s σ H D I (i D σ H q)⟩

/-! ### small statements -/
def sSkip : MS := fun env => some (.nx env)
def sSeq (m n : MS) : MS := fun env => (m env).bind fun o => match o with
  | .nx e => n e
  | o => some o
def sExpr (m : ME) : MS := fun env => (m env).bind fun p => some (.nx p.1)
def sSet (i : Nat) (m : ME) : MS := fun env => (m env).bind fun p => (p.1[i]?).bind fun x => if x.lock = true then none else match p.2 with
  | .fz d => some (.nx (p.1.set i (.fz d)))
  | .own d => some (.nx (p.1.set i (.own d)))
  | .plc j => (p.1[j]?).bind fun y => y.view.bind fun d => some (.nx ((p.1.set j y.freeze).set i (.fz d)))
def sAsg (g : MG) (m : ME) : MS := fun env => (m env).bind fun p => match p.2 with
  | .fz d => (g d p.1).bind fun e => some (.nx e)
  | _ => none
def sRet (m : ME) : MS := fun env => (m env).bind fun p => match p.2 with
  | .fz d => some (.rt (.fz d) p.1)
  | .own d => some (.rt (.own d) p.1)
  | .plc i => (p.1[i]?).bind fun x => match x with
    | .own d => some (.rt (.own d) (p.1.set i .unb))
    | x => x.view.bind fun d => some (.rt (.fz d) (p.1.set i x.freeze))
def sRetN : MS := fun env => some (.rt (.fz .none) env)
def sIf (t : MT) (a b : MS) : MS := fun env => (t env).bind fun p => if p.2 = true then a p.1 else b p.1
def sBrk : MS := fun env => some (.bk env)
def sCnt : MS := fun env => some (.ct env)
section
variable {X : Cx} {st : Stmt} {rest : List Stmt} {m n : MS} {e : Expr} {me : ME} {mt : MT} {pos : Pos}
theorem rs_nil : PSs X [] (tS X.K sSkip) := pss_imp pss_nil fun D σ H ⟨F, env, A, o, em, k⟩ => by
  cases em
  exact k σ F H A (Frm.refl _ _ _ _)
theorem rs_cons (h1 : PS X st (tS X.K m)) (h2 : PSs X rest (tS X.K n)) : PSs X (st :: rest) (tS X.K (sSeq m n)) := pss_imp (pss_cons h1 h2) fun D σ H ⟨F, env, A, o, em, k⟩ => by
  obtain ⟨o1, e1, em⟩ := bind_some em
  refine ⟨F, env, A, o1, e1, ?_⟩
  cases o1 with
  | nx e => exact fun σ1 F1 H1 A1 f1 => ⟨F1, e, A1, o, em, k.back f1⟩
  | bk e => cases em; exact k
  | ct e => cases em; exact k
  | rt r e => cases em; exact k
theorem rs_one (h1 : PS X st (tS X.K m)) : PSs X [st] (tS X.K m) := pss_one h1
theorem rs_pass : PS X (.Pass pos) (tS X.K sSkip) := ps_imp ps_pass fun D σ H ⟨F, env, A, o, em, k⟩ => by
  cases em
  exact k σ F H A (Frm.refl _ _ _ _)
theorem rs_brk : PS X (.Break pos) (tS X.K sBrk) := ps_imp ps_break fun D σ H ⟨F, env, A, o, em, k⟩ => by
  cases em
  exact k σ F H A (Frm.refl _ _ _ _)
theorem rs_cnt : PS X (.Continue pos) (tS X.K sCnt) := ps_imp ps_continue fun D σ H ⟨F, env, A, o, em, k⟩ => by
  cases em
  exact k σ F H A (Frm.refl _ _ _ _)
theorem rs_expr (he : PE X e (tE X.K me)) (hs : swapsWith e none pos.line X.env = pure false := by rfl) : PS X (.Expr e pos) (tS X.K (sExpr me)) := ps_imp (ps_expr he hs) fun D σ H ⟨F, env, A, o, em, k⟩ => by
  obtain ⟨⟨env1, r⟩, e1, em⟩ := bind_some em
  cases em
  exact ⟨F, env, A, env1, r, e1, fun v F1 H1 A1 f1 _ _ => k σ F1 H1 A1 f1⟩
theorem rs_if {c : Expr} {a b : List Stmt} (hc : PT X c (tT X.K mt)) (ha : PSs X a (tS X.K m)) (hb : PSs X b (tS X.K n)) : PS X (.If c a b pos) (tS X.K (sIf mt m n)) := ps_imp (ps_if hc ha hb) fun D σ H ⟨F, env, A, o, em, k⟩ => by
  obtain ⟨⟨env1, b1⟩, e1, em⟩ := bind_some em
  refine ⟨F, env, A, env1, b1, e1, fun F1 H1 A1 f1 => ?_⟩
  cases b1 with
  | true => exact ⟨F1, env1, A1, o, em, k.back f1⟩
  | false => exact ⟨F1, env1, A1, o, em, k.back f1⟩
theorem rs_retN : PS X (.Return none pos) (tS X.K sRetN) := ps_imp ps_retN fun D σ H ⟨F, env, A, o, em, k⟩ => by
  cases em
  exact k .non σ F H A (Frm.refl _ _ _ _) (Rp.non) trivial
theorem ret_to {K : PySem.W.Frag} {D : Ends} {σ : L2.St} {H : Hp} (h : tS K (sRet me) D σ H) : tE K me σ H D.rt := by
  obtain ⟨F, env, A, o, em, k⟩ := h
  obtain ⟨⟨env1, r⟩, e1, em⟩ := bind_some em
  refine ⟨F, env, A, env1, r, e1, fun v F1 H1 A1 f1 o1 n1 => ?_⟩
  cases r with
  | fz d => cases em; exact k v σ F1 H1 A1 f1 o1 trivial
  | own d =>
    cases em
    obtain ⟨a, e, hn⟩ := n1
    exact k v σ F1 H1 A1 f1 o1 ⟨a, e, .inr hn⟩
  | plc i =>
    obtain ⟨x, ex, em⟩ := bind_some em
    have ex' : env1[i]? = some x := ex
    have o1' : σ[i]? = some (some v) := o1
    have frz : ∀ d, x.view = some d → o = .rt (.fz d) (env1.set i x.freeze) → D.rt v H1 := fun d ed eo => by
      subst eo
      obtain ⟨F2, u, hu, A2, f2, r2⟩ := freeze_slot A1 ex' ed
      rw [o1'] at hu
      cases hu
      exact k v σ F2 H1 A2 (f1.trans f2) r2 trivial
    cases x with
    | own d =>
      cases em
      obtain ⟨a, ha, fa, oc⟩ := A1.slot i _ ex'
      rw [o1'] at ha
      cases ha
      have own1 : ∀ j b, OwnsAt σ (env1.set i .unb) j b → OwnsAt σ env1 j b ∧ j ≠ i := fun j b ⟨y, dy, g1, g2, g3⟩ => by
        rcases getSet g1 with ⟨rfl, rfl, _⟩ | ⟨hj, g1⟩
        · cases g2
        · exact ⟨⟨y, dy, g1, g2, g3⟩, hj⟩
      have A2 : Abs K F1 H1 σ (env1.set i .unb) := ⟨A1.same, by rw [List.length_set]; exact A1.len, fun j y ey => by
        rcases getSet ey with ⟨rfl, rfl, _⟩ | ⟨hj, ey⟩
        · trivial
        · exact A1.slot j y ey, fun j l b h1 h2 => A1.inj j l b (own1 j b h1).1 (own1 l b h2).1⟩
      have f2 : Frm F1 H1 σ env1 F1 H1 σ (env1.set i .unb) := ⟨Same.refl _, fun _ _ h _ => h, fun _ o h => ⟨o, h⟩, fun _ _ h => .inl h, fun b ⟨j, h⟩ => .inl ⟨j, (own1 j b h).1⟩, fun b ⟨j, z, h1, h2⟩ => by
        rcases getSet h1 with ⟨_, q, _⟩ | ⟨hj, h1⟩
        · cases q
        · exact .inl ⟨j, z, h1, h2⟩, fun j y e1 l => ⟨rfl, y, by
        rw [List.getElem?_set_ne fun z => by subst z; rw [ex'] at e1; cases e1; cases l]; exact e1, l⟩, by rw [List.length_set]⟩
      refine k (.ref a) σ F1 H1 A2 (f1.trans f2) ⟨a, rfl, fa, oc, fun ⟨j, z⟩ => (own1 j a z).2 (A1.inj j i a (own1 j a z).1 ⟨_, d, ex', rfl, o1'⟩)⟩ ⟨a, rfl, f1.ownU a ⟨i, d, ex', o1'⟩⟩
    | unb => obtain ⟨d, ed, em⟩ := bind_some em; cases ed
    | fz d' => obtain ⟨d, ed, em⟩ := bind_some em; exact frz d ed (Option.some.inj em).symm
    | ref d' => obtain ⟨d, ed, em⟩ := bind_some em; exact frz d ed (Option.some.inj em).symm
    | rfz d' => obtain ⟨d, ed, em⟩ := bind_some em; exact frz d ed (Option.some.inj em).symm
theorem rs_ret (he : PE X e (tE X.K me)) : PS X (.Return (some e) pos) (tS X.K (sRet me)) := ps_imp (ps_ret he) fun _ _ _ => ret_to
theorem set_to {K : PySem.W.Frag} {i : Nat} {D : Ends} {σ : L2.St} {H : Hp} (h : tS K (sSet i me) D σ H) : tAsg (tE K me) (gName i) D σ H := by
  obtain ⟨F, env, A, o, em, k⟩ := h
  obtain ⟨⟨env1, r⟩, e1, em⟩ := bind_some em
  obtain ⟨x, ex, em⟩ := bind_some em
  split at em
  · cases em
  rename_i hl
  have hl : x.lock = false := by cases q : x.lock <;> simp_all
  refine ⟨F, env, A, env1, r, e1, fun v F1 H1 A1 f1 o1 n1 => ?_⟩
  show D.nx (σ.set i (some v)) H1
  cases r with
  | fz d =>
    cases em
    obtain ⟨A2, f2⟩ := bind_frozen A1 ex hl o1
    exact k _ F1 H1 A2 (f1.trans f2)
  | own d =>
    cases em
    obtain ⟨a, rfl, fa, oc, nw⟩ := o1
    obtain ⟨a', ea, hn⟩ := n1
    cases ea
    obtain ⟨A2, f2⟩ := bind_slot (y := .own d) A1 ex hl rfl ⟨a, rfl, fa, oc⟩ fun b eb _ => by cases eb; exact nw
    have hH : ∀ b, V.ref a = .ref b → H b = none := fun b eb => by cases eb; exact hn
    refine k _ F1 H1 A2 ⟨f1.sameF, f1.keep, f1.there, f1.new, fun b ⟨j, y, dy, g1, g2, g3⟩ => ?_, fun b ⟨j, dy, g1, g3⟩ => ?_, fun j y g1 l => ?_, by rw [List.length_set]; exact f1.len⟩
    · rcases getSet g1 with ⟨rfl, rfl, hl'⟩ | ⟨hj, g1⟩
      · rw [List.getElem?_set_self (by rw [A1.len]; exact hl')] at g3
        exact .inr (hH b (Option.some.inj (Option.some.inj g3)))
      · rw [List.getElem?_set_ne (Ne.symm hj)] at g3
        exact f1.own b ⟨j, y, dy, g1, g2, g3⟩
    · rcases getSet g1 with ⟨rfl, _, hl'⟩ | ⟨hj, g1⟩
      · rw [List.getElem?_set_self (by rw [A1.len]; exact hl')] at g3
        exact .inr (hH b (Option.some.inj (Option.some.inj g3)))
      · rw [List.getElem?_set_ne (Ne.symm hj)] at g3
        exact f1.ownU b ⟨j, dy, g1, g3⟩
    · obtain ⟨q1, x1, q2, q3⟩ := f1.lock j y g1 l
      have hj : j ≠ i := fun z => by subst z; rw [ex] at q2; cases q2; rw [hl] at q3; cases q3
      exact ⟨by rw [List.getElem?_set_ne (Ne.symm hj)], x1, by rw [List.getElem?_set_ne (Ne.symm hj)]; exact q2, q3⟩
  | plc j =>
    obtain ⟨y, ey, em⟩ := bind_some em
    obtain ⟨d, ed, em⟩ := bind_some em
    cases em
    obtain ⟨F2, u, hu, A2, f2, r2⟩ := freeze_slot A1 ey ed
    have o1' : σ[j]? = some (some v) := o1
    rw [o1'] at hu
    cases hu
    have ex2 : ∃ x2, (env1.set j y.freeze)[i]? = some x2 ∧ x2.lock = false := by
      by_cases hj : i = j
      · subst hj
        rw [ex] at ey
        cases ey
        exact ⟨x.freeze, List.getElem?_set_self (List.getElem?_eq_some_iff.mp ex).1, by cases x <;> first | rfl | cases hl⟩
      · exact ⟨x, by rw [List.getElem?_set_ne (Ne.symm hj)]; exact ex, hl⟩
    obtain ⟨x2, ex2, hl2⟩ := ex2
    obtain ⟨A3, f3⟩ := bind_frozen A2 ex2 hl2 r2
    exact k _ F2 H1 A3 ((f1.trans f2).trans f3)
theorem rs_set {i : Nat} {x : Str} {pos' : Pos} (hN : X.N.Nodup) (hi : X.N[i]? = some x) (hx : Loc X.env.scope x) (he : PE X e (tE X.K me)) (hs : swapsWith e (some (.Name x pos')) pos.line X.env = pure false := by rfl) (hf : X.fn x = true ∨ X.env.scope.names.lookup x = some .local := by first | exact .inl rfl | exact .inr rfl | assumption) :
    PS X (.Assign [.Name x pos'] e pos) (tS X.K (sSet i me)) := ps_imp (ps_set hN hi hx he hs hf) fun _ _ _ => set_to
theorem asg_to {K : PySem.W.Frag} {is : List Nat} {g : MG} {D : Ends} {σ : L2.St} {H : Hp} (h : tS K (sAsg g me) D σ H) : tAsg (tE K me) (tG K is g) D σ H := by
  obtain ⟨F, env, A, o, em, k⟩ := h
  obtain ⟨⟨env1, r⟩, e1, em⟩ := bind_some em
  refine ⟨F, env, A, env1, r, e1, fun v F1 H1 A1 f1 o1 n1 => ?_⟩
  cases r with
  | fz d =>
    obtain ⟨e, e2, em⟩ := bind_some em
    cases em
    exact ⟨F1, env1, d, A1, o1, e, e2, fun σ2 F2 H2 A2 f2 _ => k σ2 F2 H2 A2 (f1.trans f2)⟩
  | own d => cases em
  | plc i => cases em
theorem rs_asg {tg : Expr} {is : List Nat} {g : MG} (he : PE X e (tE X.K me)) (hg : PG X tg (tG X.K is g)) (hs : swapsWithSole [tg] e pos.line X.env = pure false := by rfl) (hw : swappedStores [tg] e X.env = pure none := by rfl)
    (h1 : (assignEach [tg] X.env).map (·.2) = [assign tg X.env] := by rfl) : PS X (.Assign [tg] e pos) (tS X.K (sAsg g me)) := ps_imp (ps_asg he hg hs hw h1) fun _ _ _ => asg_to
/-- name = [..] on one line -/
theorem rs_setLc {i : Nat} {y : Str} {py : Pos} {elt tg iter : Expr} {ifs : List Expr} {scope : Scope} {own : List (Str × Nat)} {is : List Nat} {spos : Pos} {g : MG} {mi : MI} {t : MT} {m : ME} (hc : X.calm = true) (hN : X.N.Nodup) (hy : X.N[i]? = some y) (hyl : X.env.scope.names.lookup y = some .local)
    (hsw : swapsWith (.ListComp elt [⟨tg, iter, ifs, 0⟩] scope pos) (some (.Name y py)) spos.line X.env = pure true) (hi : PI X tg iter (tIt X.K mi)) (ok : BlkOk X.N X.env.scope scope own) (hv : ∀ j ∈ is, j ∈ own.map (·.2))
    (hg : ∀ (s : Shared) (H : Hp) (C : Addr) (cl : List (Str × Addr)) (fp : List Addr), PG (X.blk s H scope (compEnvC scope cl C X.env) fp) tg (tG X.K is g)) (ht : ∀ (s : Shared) (H : Hp) (C : Addr) (cl : List (Str × Addr)) (fp : List Addr), PTs (X.blk s H scope (compEnvC scope cl C X.env) fp) ifs (tT X.K t))
    (he : ∀ (s : Shared) (H : Hp) (C : Addr) (cl : List (Str × Addr)) (fp : List Addr), PE (X.blk s H scope (compEnvC scope cl C X.env) fp) elt (tE X.K m)) (hs : ∀ x, foldedSetIterable iter X.env x = pure x := by intro _; rfl) :
    PS X (.Assign [.Name y py] (.ListComp elt [⟨tg, iter, ifs, 0⟩] scope pos) spos) (tS X.K (sSet i (eLc (own.map (·.2)) g mi t m))) :=
  ps_imp (ps_setLc hc hN hy hyl hsw hi ok hg ht he hs) fun D σ H h => lc_to hv (set_to h)
end

/-! ### loops -/
def forLoop (g : MG) (body : MS) : List PyData → MEnv → Option Out
  | [], env => some (.nx env)
  | d :: ds, env => (g d env).bind fun e1 => (body e1).bind fun o => match o with
    | .nx e => forLoop g body ds e
    | .ct e => forLoop g body ds e
    | .bk e => some (.nx e)
    | .rt r e => some (.rt r e)
def sFor (g : MG) (mi : MI) (body : MS) : MS := fun env => (mi env).bind fun p => forLoop g body p.2 p.1
def whileLoop (t : MT) (body : MS) : Nat → MEnv → Option Out
  | 0, _ => none
  | n + 1, env => (t env).bind fun p => if p.2 = true then (body p.1).bind fun o => match o with
      | .nx e => whileLoop t body n e
      | .ct e => whileLoop t body n e
      | .bk e => some (.nx e)
      | .rt r e => some (.rt r e)
    else some (.nx p.1)
def sWhile (n : Nat) (t : MT) (body : MS) : MS := whileLoop t body n
section
variable {X : Cx} {m : MS} {mt : MT} {mi : MI} {g : MG} {is : List Nat} {pos : Pos}
theorem for_to {K : PySem.W.Frag} {D : Ends} {σ : L2.St} {H : Hp} (h : tS K (sFor g mi m) D σ H) : tFor (tIt K mi) (tG K is g) (tS K m) D σ H := by
  obtain ⟨F, env, A, o, em, k⟩ := h
  obtain ⟨⟨env1, ds⟩, e1, em⟩ := bind_some em
  refine ⟨F, env, A, env1, ds, e1, fun J F1 H1 A1 f1 it => ?_⟩
  refine ⟨fun i mm σ' H' => mm = ds.length - i ∧ i ≤ ds.length ∧ ∃ F' e', Abs K F' H' σ' e' ∧ Frm F1 H1 σ env1 F' H' σ' e' ∧ forLoop g m (ds.drop i) e' = some o, ⟨ds.length, by omega, Nat.zero_le _, F1, env1, A1, Frm.refl _ _ _ _, em⟩, ?_⟩
  rintro i mm σ' H' ⟨rfl, hle, F', e', A', f', el⟩
  have k' := (k.back f1).back f'
  have sF1 : Same F1 H' := f'.sameF.trans A'.same
  by_cases hlt : i < ds.length
  · have hd : ds[i]? = some ds[i] := List.getElem?_eq_getElem hlt
    rw [List.drop_eq_getElem_cons hlt] at el
    obtain ⟨ea, g1, el⟩ := bind_some el
    obtain ⟨ob, g2, el⟩ := bind_some el
    refine .inr ⟨it.go i H' sF1 hlt, fun σ3 H3 => ∃ F3 e3, Abs K F3 H3 σ3 e3 ∧ Frm F1 H1 σ env1 F3 H3 σ3 e3 ∧ forLoop g m (ds.drop (i + 1)) e3 = some o, fun σ3 H3 ⟨F3, e3, q⟩ => ⟨ds.length - (i + 1), by omega, rfl, hlt, F3, e3, q⟩, fun x H3 hy => ?_⟩
    obtain ⟨G, sG, sH, sGH, nG, rG⟩ := it.yld i H' F' x H3 ds[i] f'.sameF A'.same hy hd
    obtain ⟨A3, f3⟩ := grow A' sG sH sGH nG
    refine ⟨G, e', ds[i], A3, rG, ea, g1, fun σ4 F4 H4 A4 f4 _ => ⟨F4, ea, A4, ob, g2, ?_⟩⟩
    have ff := f3.trans f4
    cases ob with
    | nx e => exact fun σ5 F5 H5 A5 f5 => ⟨F5, e, A5, (f'.trans ff).trans f5, el⟩
    | ct e => exact fun σ5 F5 H5 A5 f5 => ⟨F5, e, A5, (f'.trans ff).trans f5, el⟩
    | bk e => cases el; exact fun σ5 F5 H5 A5 f5 => k' σ5 F5 H5 A5 (ff.trans f5)
    | rt r e => cases el; exact k'.back ff
  · have ei : i = ds.length := by omega
    subst ei
    rw [List.drop_length] at el
    cases el
    exact .inl ⟨it.stop H' sF1, k' σ' F' H' A' (Frm.refl _ _ _ _)⟩
theorem rs_for {tg iter : Expr} {body : List Stmt} (hp : PassesOwn (model X.prog X.w) X.A X.env X.xe) (hc : X.calm = true) (hi : PI X tg iter (tIt X.K mi)) (hg : PG X tg (tG X.K is g)) (hb : PSs X body (tS X.K m))
    (hs : ∀ x, foldedSetIterable iter X.env x = pure x := by intro _; rfl) : PS X (.For tg iter body [] pos) (tS X.K (sFor g mi m)) := ps_imp (ps_for hp hc hi hg hb hs) fun _ _ _ => for_to
theorem while_to {K : PySem.W.Frag} {n : Nat} {D : Ends} {σ : L2.St} {H : Hp} (h : tS K (sWhile n mt m) D σ H) : tWhile (tT K mt) (tS K m) D σ H := by
  obtain ⟨F, env, A, o, em, k⟩ := h
  refine ⟨fun mm σ' H' => ∃ F' e', Abs K F' H' σ' e' ∧ Frm F H σ env F' H' σ' e' ∧ whileLoop mt m mm e' = some o, ⟨n, F, env, A, Frm.refl _ _ _ _, em⟩, ?_⟩
  rintro mm σ' H' ⟨F', e', A', f', el⟩
  have k' := k.back f'
  cases mm with
  | zero => cases el
  | succ mm =>
    obtain ⟨⟨ea, b⟩, g1, el⟩ := bind_some el
    refine ⟨F', e', A', ea, b, g1, fun F1 H1 A1 f1 => ?_⟩
    cases b with
    | false =>
      refine ite2 (fun z => by cases z) fun _ => ?_
      have el' : some (Out.nx ea) = some o := el
      cases el'
      exact k' σ' F1 H1 A1 f1
    | true =>
      refine ite2 (fun _ => ?_) fun z => (z rfl).elim
      have el' : ((m ea).bind fun o => match o with
        | .nx e => whileLoop mt m mm e
        | .ct e => whileLoop mt m mm e
        | .bk e => some (.nx e)
        | .rt r e => some (.rt r e)) = some o := el
      obtain ⟨ob, g2, el'⟩ := bind_some el'
      refine ⟨fun σ3 H3 => ∃ F3 e3, Abs K F3 H3 σ3 e3 ∧ Frm F H σ env F3 H3 σ3 e3 ∧ whileLoop mt m mm e3 = some o, fun σ3 H3 q => ⟨mm, Nat.lt_succ_self _, q⟩, F1, ea, A1, ob, g2, ?_⟩
      cases ob with
      | nx e => exact fun σ5 F5 H5 A5 f5 => ⟨F5, e, A5, (f'.trans f1).trans f5, el'⟩
      | ct e => exact fun σ5 F5 H5 A5 f5 => ⟨F5, e, A5, (f'.trans f1).trans f5, el'⟩
      | bk e => cases el'; exact fun σ5 F5 H5 A5 f5 => k' σ5 F5 H5 A5 (f1.trans f5)
      | rt r e => cases el'; exact k'.back f1
theorem rs_while {n : Nat} {c : Expr} {body : List Stmt} (hp : PassesOwn (model X.prog X.w) X.A X.env X.xe) (hc : PT X c (tT X.K mt)) (hb : PSs X body (tS X.K m)) : PS X (.While c body [] pos) (tS X.K (sWhile n mt m)) := ps_imp (ps_while hp hc hb) fun _ _ _ => while_to
end
end L3

/-! L3F: calls of the text's own defs; what changes an owned list. -/
namespace L3
open PySem PySem.Spec PyProof.Rows L2

/-! ### a def by data -/
abbrev CF := List SV → Option (List SV × RV)
def SV.plain : SV → Bool
  | .own _ => true
  | .fz _ => true
  | _ => false
def SV.enter : SV → SV
  | .own d => .ref d
  | x => x
/-- a parameter behind the body: x as it was handed in, y as it stands -/
def SV.exit (x y : SV) : Option SV := match x with
  | .own _ => match y with
    | .ref d => some (.own d)
    | .rfz d => some (.fz d)
    | _ => none
  | x => some x
def exitAll : List SV → MEnv → Option (List SV)
  | [], _ => some []
  | x :: xs, y :: ys => (x.exit y).bind fun z => (exitAll xs ys).bind fun zs => some (z :: zs)
  | _ :: _, [] => none
/-- n parameters, l slots in all -/
def runF (n l : Nat) (body : MS) : CF := fun as => if as.length = n ∧ as.all SV.plain = true ∧ n ≤ l then
    (body (as.map SV.enter ++ List.replicate (l - n) SV.unb)).bind fun o => match o with
      | .rt r e => (exitAll as e).bind fun bs => match r with
        | .plc _ => none
        | r => some (bs, r)
      | .nx e => (exitAll as e).bind fun bs => some (bs, .fz .none)
      | _ => none
  else none
def mst (vs : List V) : L2.St := vs.map some
/-- what a def promises that does as C says -/
def spOf (n : Nat) (C : CF) (K : PySem.W.Frag) : Sp := fun vs H Q _ => ∃ F as, vs.length = n ∧ as.all SV.plain = true ∧ Abs K F H (mst vs) as ∧ ∃ bs r, C as = some (bs, r) ∧
  ∀ v F' H', Abs K F' H' (mst vs) bs → Frm F H (mst vs) as F' H' (mst vs) bs → r.ok K F' H' (mst vs) bs v → r.isNew H v → Q v H'

theorem exitAll_length : ∀ {as : List SV} {e : MEnv} {bs : List SV}, exitAll as e = some bs → bs.length = as.length
  | [], _, bs, h => by cases h; rfl
  | x :: xs, y :: ys, bs, h => by
    obtain ⟨z, _, h⟩ := bind_some h
    obtain ⟨zs, h2, h⟩ := bind_some h
    cases h
    exact congrArg (· + 1) (exitAll_length h2)
  | _ :: _, [], _, h => by cases h
theorem exitAll_get : ∀ {as : List SV} {e : MEnv} {bs : List SV} {j : Nat} {x : SV}, exitAll as e = some bs → as[j]? = some x → ∃ y z, e[j]? = some y ∧ x.exit y = some z ∧ bs[j]? = some z
  | [], _, _, _, _, _, h => by simp at h
  | x :: xs, y :: ys, bs, j, u, h, hj => by
    obtain ⟨z, h1, h⟩ := bind_some h
    obtain ⟨zs, h2, h⟩ := bind_some h
    cases h
    cases j with
    | zero => simp at hj; subst hj; exact ⟨y, z, rfl, h1, rfl⟩
    | succ j =>
      obtain ⟨y', z', e1, e2, e3⟩ := exitAll_get (j := j) h2 (by simpa using hj)
      exact ⟨y', z', by simpa using e1, e2, by simpa using e3⟩
  | _ :: _, [], _, _, _, h, _ => by cases h

section
variable {K : PySem.W.Frag} {F H F' H' : Hp} {σ' : L2.St} {env' : MEnv} {vs : List V} {as bs : List SV} {N : List Str}
theorem plain_at (hp : as.all SV.plain = true) {j : Nat} {x : SV} (e : as[j]? = some x) : x.plain = true := by
  rw [List.all_eq_true] at hp
  exact hp x (List.mem_of_getElem? e)
theorem mst_get {j : Nat} {y : Option V} (e : (mst vs)[j]? = some y) : ∃ v, vs[j]? = some v ∧ y = some v := by
  unfold mst at e
  rw [List.getElem?_map] at e
  cases q : vs[j]? with
  | none => rw [q] at e; cases e
  | some v => rw [q] at e; exact ⟨v, rfl, (Option.some.inj e).symm⟩
/-- the slots at a def's entry -/
theorem start_get {j : Nat} (h : j < vs.length) : (start N vs)[j]? = (mst vs)[j]? := by
  unfold L2.start mst
  rw [List.getElem?_append_left (by simpa using h)]
theorem entry_get {j l n : Nat} {z : SV} (e : (as.map SV.enter ++ List.replicate (l - n) SV.unb)[j]? = some z) : (∃ x, as[j]? = some x ∧ z = x.enter) ∨ (as.length ≤ j ∧ z = .unb) := by
  by_cases h : j < as.length
  · rw [List.getElem?_append_left (by simpa using h), List.getElem?_map] at e
    rw [List.getElem?_eq_getElem h] at e ⊢
    exact .inl ⟨_, rfl, (Option.some.inj e).symm⟩
  · rw [List.getElem?_append_right (by simp; omega)] at e
    exact .inr ⟨by omega, (List.eq_of_mem_replicate (List.mem_of_getElem? e))⟩
theorem abs_entry {n : Nat} (A : Abs K F H (mst vs) as) (hp : as.all SV.plain = true) (hl : vs.length = n) (hN : n ≤ N.length) : Abs K F H (start N vs) (as.map SV.enter ++ List.replicate (N.length - n) SV.unb) ∧
    (∀ a, Owns (start N vs) (as.map SV.enter ++ List.replicate (N.length - n) SV.unb) a → Owns (mst vs) as a) ∧ (∀ a, ¬ OwnsU (start N vs) (as.map SV.enter ++ List.replicate (N.length - n) SV.unb) a) := by
  have hal : as.length = n := by rw [← A.len, ← hl]; simp [mst]
  have own1 : ∀ j a, OwnsAt (start N vs) (as.map SV.enter ++ List.replicate (N.length - n) SV.unb) j a → OwnsAt (mst vs) as j a := fun j a ⟨x, d, h1, h2, h3⟩ => by
    rcases entry_get h1 with ⟨y, h4, rfl⟩ | ⟨_, rfl⟩
    · have hj : j < vs.length := by rw [hl, ← hal]; exact (List.getElem?_eq_some_iff.mp h4).1
      rw [start_get hj] at h3
      refine ⟨y, d, h4, ?_, h3⟩
      cases y <;> first | exact h2 | (cases h2; done)
    · cases h2
  refine ⟨⟨A.same, by simp [L2.start, mst, hl, hal], fun j x e => ?_, fun i j a h1 h2 => A.inj i j a (own1 i a h1) (own1 j a h2)⟩, fun a ⟨j, h⟩ => ⟨j, own1 j a h⟩, fun a ⟨j, d, h1, _⟩ => ?_⟩
  · rcases entry_get e with ⟨y, h4, rfl⟩ | ⟨_, rfl⟩
    · have hj : j < vs.length := by rw [hl, ← hal]; exact (List.getElem?_eq_some_iff.mp h4).1
      rw [start_get hj]
      have := A.slot j y h4
      cases y <;> exact this
    · trivial
  · rcases entry_get h1 with ⟨y, h4, e⟩ | ⟨_, e⟩
    · have := plain_at hp h4
      cases y <;> first | (cases e; done) | (cases this; done)
    · cases e
/-- behind the body: the parameters as they go back -/
theorem abs_exit {n : Nat} (A : Abs K F H (mst vs) as) (hp : as.all SV.plain = true) (hl : vs.length = n) (hN : n ≤ N.length) (A' : Abs K F' H' σ' env')
    (f : Frm F H (start N vs) (as.map SV.enter ++ List.replicate (N.length - n) SV.unb) F' H' σ' env') (ex : exitAll as env' = some bs) :
    Abs K F' H' (mst vs) bs ∧ Frm F H (mst vs) as F' H' (mst vs) bs ∧ ∀ a, Owns (mst vs) bs a → Owns σ' env' a := by
  have hal : as.length = n := by rw [← A.len, ← hl]; simp [mst]
  obtain ⟨A0, o0, u0⟩ := abs_entry A hp hl hN
  have bl : bs.length = as.length := exitAll_length ex
  -- an owned parameter's slot
  have par : ∀ (j : Nat) (d : PyData), as[j]? = some (.own d) → σ'[j]? = (mst vs)[j]? ∧ ∃ y : SV, env'[j]? = some y ∧ ((∃ d', y = .ref d' ∧ bs[j]? = some (.own d')) ∨ ∃ d', y = .rfz d' ∧ bs[j]? = some (.fz d')) := fun j d e => by
    have hj : j < as.length := (List.getElem?_eq_some_iff.mp e).1
    have e0 : (as.map SV.enter ++ List.replicate (N.length - n) SV.unb)[j]? = some (.ref d) := by
      rw [List.getElem?_append_left (by simpa using hj), List.getElem?_map, e]
      rfl
    obtain ⟨q1, x', q2, q3⟩ := f.lock j _ e0 rfl
    rw [start_get (by omega)] at q1
    obtain ⟨y, z, g1, g2, g3⟩ := exitAll_get ex e
    refine ⟨q1, y, g1, ?_⟩
    cases y with
    | ref d' => cases g2; exact .inl ⟨d', rfl, g3⟩
    | rfz d' => cases g2; exact .inr ⟨d', rfl, g3⟩
    | unb => cases g2
    | fz _ => cases g2
    | own _ => cases g2
  have other : ∀ (j : Nat) (x : SV), as[j]? = some x → (∀ d, x ≠ .own d) → bs[j]? = some x := fun j x e n => by
    obtain ⟨y, z, g1, g2, g3⟩ := exitAll_get ex e
    cases x with
    | own d => exact (n d rfl).elim
    | unb => cases g2; exact g3
    | fz _ => cases g2; exact g3
    | ref _ => cases g2; exact g3
    | rfz _ => cases g2; exact g3
  have asAt : ∀ (j : Nat) (z : SV), bs[j]? = some z → ∃ x, as[j]? = some x := fun j z e => by
    have hj : j < as.length := by rw [← bl]; exact (List.getElem?_eq_some_iff.mp e).1
    exact ⟨as[j], List.getElem?_eq_getElem hj⟩
  have own1 : ∀ j a, OwnsAt (mst vs) bs j a → OwnsAt σ' env' j a ∧ ∃ d, as[j]? = some (.own d) := fun j a ⟨z, d, h1, h2, h3⟩ => by
    obtain ⟨x, hx⟩ := asAt j z h1
    have pl := plain_at hp hx
    cases x with
    | own d0 =>
      obtain ⟨q1, y, g1, g2⟩ := par j d0 hx
      rcases g2 with ⟨d', rfl, g3⟩ | ⟨d', rfl, g3⟩
      · exact ⟨⟨.ref d', d', g1, rfl, q1.trans h3⟩, d0, hx⟩
      · rw [h1] at g3; cases g3; cases h2
    | fz d0 =>
      rw [other j _ hx fun d q => by cases q] at h1
      cases h1
      cases h2
    | unb => cases pl
    | ref _ => cases pl
    | rfz _ => cases pl
  refine ⟨⟨A'.same, by rw [bl]; exact A.len, fun j z e => ?_, fun i j a h1 h2 => A'.inj i j a (own1 i a h1).1 (own1 j a h2).1⟩, ⟨f.sameF, fun a o h n => f.keep a o h fun z => n (o0 a z), f.there, fun a o h => ?_, fun a ⟨j, h⟩ => ?_, fun a ⟨j, d, h1, h3⟩ => ?_, fun j x e l => ?_, bl⟩, fun a ⟨j, h⟩ => ⟨j, (own1 j a h).1⟩⟩
  · obtain ⟨x, hx⟩ := asAt j z e
    have pl := plain_at hp hx
    cases x with
    | own d0 =>
      obtain ⟨q1, y, g1, g2⟩ := par j d0 hx
      have sl := A'.slot j y g1
      rw [q1] at sl
      rcases g2 with ⟨d', rfl, g3⟩ | ⟨d', rfl, g3⟩
      · rw [e] at g3; cases g3; exact sl
      · rw [e] at g3; cases g3; exact sl
    | fz d0 =>
      rw [other j _ hx fun d q => by cases q] at e
      cases e
      obtain ⟨v, q, r⟩ := A.slot j _ hx
      exact ⟨v, q, r.mono f.sameF⟩
    | unb => cases pl
    | ref _ => cases pl
    | rfz _ => cases pl
  · rcases f.new a o h with z | z | z
    · exact .inl z
    · exact .inr (.inl z)
    · exact .inr (.inr (o0 a z))
  · rcases f.own a ⟨j, (own1 j a h).1⟩ with z | z
    · exact .inl (o0 a z)
    · exact .inr z
  · obtain ⟨_, d0, hx⟩ := own1 j a ⟨.own d, d, h1, rfl, h3⟩
    exact .inl ⟨j, d0, hx, h3⟩
  · have := plain_at hp e
    cases x <;> first | (cases l; done) | (cases this; done)
end
section
variable {P : Program} {w : World} {K : PySem.W.Frag} {mg : Str → Option Value} {base : Heap}
/-! ### promises under no guard (repr wants to know that) -/
structure RoomG (k : Nat) (A : Around) : Prop where
  r : Room k A
  g : A.guards = some []
theorem RoomG.mono {j k : Nat} {A : Around} (h : RoomG k A) (l : j ≤ k) : RoomG j A := ⟨h.r.mono l, h.g⟩
theorem RoomG.deeper {k : Nat} {A : Around} (h : RoomG (k + 1) A) (env : Env) : RoomG k (A.deeper env) := ⟨h.r.deeper env, h.g⟩
theorem RoomG.units {k : Nat} {A : Around} (h : RoomG k A) : A.units + 64 < cLine := h.r.units
theorem RoomG.u65 {k : Nat} {A : Around} (h : RoomG k A) : A.units + 65 < cLine := by have := h.r.un; omega
structure FnOkG (P : Program) (w : World) (K : PySem.W.Frag) (mg : Str → Option Value) (base : Heap) (CX : CXT) (k : Nat) (f : Addr) (fd : FuncData) (ps : List Str) (sp : Sp) : Prop where
  len : ∀ vs H Q E, sp vs H Q E → vs.length = ps.length
  go : ∀ (A : Around) (o : List Env) (s : Shared) (H : Hp) (as : Args) (us : List Value) (vs : List V) (Q : VK) (E : XK), RoomG k A → Env0 P w K mg base A o s H → BindsTo s fd as (ps.zip us) → Vals vs us → sp vs H Q E →
    codeAny (model P w) A (.call (.ref f) as) (CR CX o P w H s Q E) s
theorem fnG_of {CX : CXT} {x qual : Str} {st : Stmt} {f : Addr} {fd : FuncData} {N ps : List Str} {k : Nat} {sp : Sp} (F : Fun K x qual st f fd) (S : FnScope N ps (defScope st)) (len : ∀ vs H Q E, sp vs H Q E → vs.length = ps.length)
    (hbody : ∀ (cdv : Value) (A : Around) (o : List Env) (s : Shared) (H : Hp) (vs : List V) (Q : VK) (E : XK), RoomG k (A.deeper (envOfC qual (defScope st) s.heap.objs.size f cdv)) → sp vs H Q E →
      ∃ t, PSs (cxOf CX P w K mg base N qual (defScope st) f cdv A o s H E) (defBody st) t ∧ t { nx := fun _ H' => Q .non H', rt := Q } (start N vs) H) : FnOkG P w K mg base CX (k + 1) f fd ps sp := by
  obtain ⟨c1, c2, c3, c4, c5, c6, cdv, c8, c9, rfl, found, hcode⟩ := F.ex
  constructor
  · exact len
  intro A o s H as us vs Q E hr en hbd rv hsp
  have hlen := len _ _ _ _ hsp
  have sees : K.In s.heap := en.mod.kin.keeps fun b ob q => (en.bs b ob q).1
  have noLim : s.heap.NoLimit := en.mod.nolimit.keeps fun b ob q => (en.bs b ob q).1
  have kinds : ∀ y ∈ ps.zip us, (defScope st).names.lookup y.1 = some .local ∨ ((defScope st).names.lookup y.1 = some .cell ∧ ((cellsFrom (s.heap.objs.size + 1) (defScope st).names []).lookup y.1).isSome = true) := by
    rintro ⟨n, v⟩ hy
    cases S.par n (List.of_mem_zip hy).1 with
    | inl q => exact .inl q
    | inr q => exact .inr ⟨q, PySem.W.cellsFrom_some _ _ _ (.inl q)⟩
  refine codeAny_call_function hr.r.depth (sees _ _ found) rfl S.co S.gen rfl (PySem.W.codeRec_of sees hcode) ?_
  refine hbd _ _ _ _ (wpAny_newFunctionEnv_cells S.kind kinds fun env he s1 inc => ?_)
  subst he
  refine ⟨noLim.keeps inc.toInCall.keep, codeAny_func ?_⟩
  obtain ⟨t, runs, met⟩ := hbody cdv A o s H vs Q E (hr.deeper _) hsp
  have I0 := inv_start (CX := CX) (E := E) (cd := cdv) (qual := qual) (f := f) S hr.r.hd en hlen rv inc
  refine wpAny_mono (runs.run [] s1 (start N vs) H _ I0 met) (fun fl s2 hs => ?_) fun e s2 hs => hs
  cases fl with
  | ret u =>
    obtain ⟨v, σ2, H2, J, ru, q⟩ := hs
    exact ⟨v, H2, J.os, J.bare, J.base, J.hok, ru, q⟩
  | next =>
    obtain ⟨σ2, H2, J, q⟩ := hs
    exact ⟨V.non, H2, J.os, J.bare, J.base, J.hok, rfl, q⟩
  | brk => exact (hs.elim fun _ h => h.elim fun _ h => h.2.elim)
  | cont => exact (hs.elim fun _ h => h.elim fun _ h => h.2.elim)
/-- THE RULE for a def that does as its body by data says -/
theorem fn_data {x qual : Str} {st : Stmt} {f : Addr} {fd : FuncData} {N ps : List Str} {k : Nat} {body : MS} (G : Fun K x qual st f fd) (S : FnScope N ps (defScope st)) (hN : ps.length ≤ N.length)
    (hb : ∀ (cdv : Value) (A : Around) (outer : List Env) (s : Shared) (H : Hp) (E : XK), RoomG k (A.deeper (envOfC qual (defScope st) s.heap.objs.size f cdv)) → PSs (cxOf CX0 P w K mg base N qual (defScope st) f cdv A outer s H E).nox (defBody st) (tS K body)) :
    FnOkG P w K mg base CX0 (k + 1) f fd ps (spOf ps.length (runF ps.length N.length body) K) := by
  refine fnG_of G S (fun vs H Q E h => ?_) (fun cdv A outer s H vs Q E hr h => ?_)
  · obtain ⟨F, as, hl, _⟩ := h
    exact hl
  · obtain ⟨F, as, hl, hp, A0, bs, r, hC, k0⟩ := h
    refine ⟨tS K body, (hb cdv A outer s H E hr).nox, ?_⟩
    unfold runF at hC
    split at hC
    case isFalse => cases hC
    obtain ⟨o, eo, hC⟩ := bind_some hC
    obtain ⟨A1, o1, u1⟩ := abs_entry (N := N) A0 hp hl hN
    refine ⟨F, _, A1, o, eo, ?_⟩
    cases o with
    | bk e => cases hC
    | ct e => cases hC
    | nx e =>
      obtain ⟨bs', ex, hC⟩ := bind_some hC
      cases hC
      refine fun σ' F' H' A' f' => ?_
      obtain ⟨A2, f2, _⟩ := abs_exit A0 hp hl hN A' f' ex
      exact k0 .non F' H' A2 f2 Rp.non trivial
    | rt r' e =>
      obtain ⟨bs', ex, hC⟩ := bind_some hC
      refine fun v σ' F' H' A' f' ok rt => ?_
      obtain ⟨A2, f2, own2⟩ := abs_exit A0 hp hl hN A' f' ex
      cases r' with
      | plc i => cases hC
      | fz d => cases hC; exact k0 v F' H' A2 f2 ok trivial
      | own d =>
        cases hC
        obtain ⟨a, e1, e2, e3, e4⟩ := ok
        obtain ⟨a', e5, e6⟩ := rt
        rw [e1] at e5
        cases e5
        refine k0 v F' H' A2 f2 ⟨a, e1, e2, e3, fun z => e4 (own2 a z)⟩ ⟨a, e1, ?_⟩
        rcases e6 with z | z
        · exact (u1 a z).elim
        · exact z
end

/-! ### a call -/
def argSV (env : MEnv) : RV → Option SV
  | .fz d => some (.fz d)
  | .own d => some (.own d)
  | .plc i => (env[i]?).bind fun x => match x with
    | .own d => some (.own d)
    | .ref d => some (.own d)
    | .fz d => some (.fz d)
    | .rfz d => some (.fz d)
    | .unb => none
def argSVs (env : MEnv) : List RV → Option (List SV)
  | [] => some []
  | r :: rs => (argSV env r).bind fun x => (argSVs env rs).bind fun xs => some (x :: xs)
/-- no slot is handed in twice -/
def placed (i : Nat) : List RV → Bool
  | [] => false
  | .plc j :: rs => decide (j = i) || placed i rs
  | _ :: rs => placed i rs
def apart : List RV → Bool
  | [] => true
  | .plc j :: rs => !placed j rs && apart rs
  | _ :: rs => apart rs
def SV.back (x y : SV) : SV := match x, y with
  | .own _, .own d => .own d
  | .own _, .fz d => .fz d
  | .ref _, .own d => .ref d
  | .ref _, .fz d => .rfz d
  | x, _ => x
def findSV : List RV → List SV → Nat → Option SV
  | .plc j :: rs, y :: ys, i => if j = i then some y else findSV rs ys i
  | _ :: rs, _ :: ys, i => findSV rs ys i
  | _, _, _ => none
def backAt (rs : List RV) (bs : List SV) (i : Nat) (x : SV) : SV := match findSV rs bs i with
  | some y => x.back y
  | none => x
def backSVs (rs : List RV) (bs : List SV) : Nat → MEnv → MEnv
  | _, [] => []
  | k, x :: xs => backAt rs bs k x :: backSVs rs bs (k + 1) xs
def eUser (C : CF) (ms : MA) : ME := fun env => (ms env).bind fun p => (argSVs p.1 p.2).bind fun as => if apart p.2 = true ∧ as.all SV.plain = true then (C as).bind fun q => if q.1.all SV.plain = true then match q.2 with
      | .plc _ => none
      | r => some (backSVs p.2 q.1 0 p.1, r)
    else none else none
theorem backSVs_length (rs : List RV) (bs : List SV) : ∀ (k : Nat) (env : MEnv), (backSVs rs bs k env).length = env.length
  | _, [] => rfl
  | k, x :: xs => congrArg (· + 1) (backSVs_length rs bs (k + 1) xs)
theorem backSVs_get (rs : List RV) (bs : List SV) : ∀ (k : Nat) (env : MEnv) (i : Nat), (backSVs rs bs k env)[i]? = (env[i]?).map (backAt rs bs (k + i))
  | _, [], _ => by simp [backSVs]
  | k, x :: xs, 0 => by simp [backSVs]
  | k, x :: xs, i + 1 => by
    show (backSVs rs bs (k + 1) xs)[i]? = _
    rw [backSVs_get rs bs (k + 1) xs i, List.getElem?_cons_succ, show k + 1 + i = k + (i + 1) by omega]
theorem argSVs_length {env : MEnv} : ∀ {rs : List RV} {as : List SV}, argSVs env rs = some as → as.length = rs.length
  | [], _, h => by cases h; rfl
  | r :: rs, as, h => by
    obtain ⟨x, _, h⟩ := bind_some h
    obtain ⟨xs, h2, h⟩ := bind_some h
    cases h
    exact congrArg (· + 1) (argSVs_length h2)
theorem findSV_some : ∀ {rs : List RV} {bs : List SV} {i : Nat} {y : SV}, findSV rs bs i = some y → ∃ j : Nat, rs[j]? = some (RV.plc i) ∧ bs[j]? = some y
  | .plc j :: rs, y :: ys, i, z, h => by
    unfold findSV at h
    split at h
    · rename_i e
      subst e
      cases h
      exact ⟨0, rfl, rfl⟩
    · obtain ⟨k, h1, h2⟩ := findSV_some h
      exact ⟨k + 1, by simpa using h1, by simpa using h2⟩
  | .fz d :: rs, y :: ys, i, z, h => by
    obtain ⟨k, h1, h2⟩ := findSV_some (rs := rs) (bs := ys) h
    exact ⟨k + 1, by simpa using h1, by simpa using h2⟩
  | .own d :: rs, y :: ys, i, z, h => by
    obtain ⟨k, h1, h2⟩ := findSV_some (rs := rs) (bs := ys) h
    exact ⟨k + 1, by simpa using h1, by simpa using h2⟩
  | [], _, _, _, h => by cases h
  | .plc _ :: _, [], _, _, h => by cases h
  | .fz _ :: _, [], _, _, h => by cases h
  | .own _ :: _, [], _, _, h => by cases h
theorem findSV_none : ∀ {rs : List RV} {bs : List SV} {i : Nat}, bs.length = rs.length → findSV rs bs i = none → ∀ j : Nat, rs[j]? ≠ some (RV.plc i)
  | [], _, _, _, _, j, e => by simp at e
  | .plc k :: rs, y :: ys, i, hl, h, j, e => by
    unfold findSV at h
    split at h
    · cases h
    · rename_i n
      cases j with
      | zero => simp at e; exact n e
      | succ j => exact findSV_none (by simpa using hl) h j (by simpa using e)
  | .fz d :: rs, y :: ys, i, hl, h, j, e => by
    cases j with
    | zero => simp at e
    | succ j => exact findSV_none (rs := rs) (bs := ys) (by simpa using hl) h j (by simpa using e)
  | .own d :: rs, y :: ys, i, hl, h, j, e => by
    cases j with
    | zero => simp at e
    | succ j => exact findSV_none (rs := rs) (bs := ys) (by simpa using hl) h j (by simpa using e)
  | _ :: _, [], _, hl, _, _, _ => by cases hl
theorem placed_of : ∀ {rs : List RV} {i j : Nat}, rs[j]? = some (.plc i) → placed i rs = true
  | [], _, _, e => by simp at e
  | r :: rs, i, 0, e => by
    simp at e
    subst e
    simp [placed]
  | r :: rs, i, j + 1, e => by
    have := placed_of (rs := rs) (i := i) (j := j) (by simpa using e)
    cases r <;> simp [placed, this]

section
variable {K : PySem.W.Frag} {F H F0 H0 : Hp} {σ : L2.St} {env env0 : MEnv}
theorem args_abs (A : Abs K F H σ env) : ∀ {vs : List V} {rs : List RV} {as : List SV}, rvsOk K F H σ env vs rs → argSVs env rs = some as → apart rs = true →
    Abs K F H (mst vs) as ∧ ∀ a, Owns (mst vs) as a → (∃ i, OwnsAt σ env i a ∧ placed i rs = true) ∨ V.ref a ∈ ownVs vs rs
  | [], [], as, _, e, _ => by
    cases e
    exact ⟨⟨A.same, rfl, fun i x e => by simp at e, fun i j a ⟨x, d, h, _⟩ => by simp at h⟩, fun a ⟨i, x, d, h, _⟩ => by simp at h⟩
  | v :: vs, r :: rs, as, h, e, ap => by
    obtain ⟨x, e1, e⟩ := bind_some e
    obtain ⟨xs, e2, e⟩ := bind_some e
    cases e
    have ap2 : apart rs = true := by
      cases r with
      | plc j => simp [apart] at ap; exact ap.2
      | fz d => exact ap
      | own d => exact ap
    obtain ⟨A2, O2⟩ := args_abs A h.2.1 e2 ap2
    -- the head
    have hx : x.ok K F H (some (some v)) := by
      cases r with
      | fz d => cases e1; exact ⟨v, rfl, h.1⟩
      | own d => cases e1; obtain ⟨a, q1, q2, q3, _⟩ := h.1; exact ⟨a, by rw [q1], q2, q3⟩
      | plc i =>
        obtain ⟨y, ey, e1⟩ := bind_some e1
        have sl := A.slot i y ey
        have hv : σ[i]? = some (some v) := h.1
        rw [hv] at sl
        cases y with
        | unb => cases e1
        | fz d => cases e1; exact sl
        | own d => cases e1; exact sl
        | ref d => cases e1; exact sl
        | rfz d => cases e1; exact sl
    have own0 : ∀ a d, x.isOwn = some d → v = .ref a → (∃ i, OwnsAt σ env i a ∧ r = .plc i) ∨ ∃ d', r = .own d' := fun a d o ev => by
      cases r with
      | fz d => cases e1; cases o
      | own d => exact .inr ⟨d, rfl⟩
      | plc i =>
        obtain ⟨y, ey, e1⟩ := bind_some e1
        have hv : σ[i]? = some (some v) := h.1
        subst ev
        cases y with
        | unb => cases e1
        | fz d => cases e1; cases o
        | rfz d => cases e1; cases o
        | own d => cases e1; exact .inl ⟨i, ⟨_, _, ey, rfl, hv⟩, rfl⟩
        | ref d => cases e1; exact .inl ⟨i, ⟨_, _, ey, rfl, hv⟩, rfl⟩
    have sep : ∀ a d, x.isOwn = some d → v = .ref a → ¬ Owns (mst vs) xs a := fun a d o ev z => by
      rcases own0 a d o ev with ⟨i, q, rfl⟩ | ⟨d', rfl⟩
      · rcases O2 a z with ⟨j, q2, q3⟩ | hm
        · have := A.inj i j a q q2
          subst this
          simp [apart] at ap
          rw [q3] at ap
          exact Bool.noConfusion ap.1
        · -- an owned temporary is no slot's
          have : ∀ {ws : List V} {ss : List RV}, rvsOk K F H σ env ws ss → V.ref a ∈ ownVs ws ss → ¬ Owns σ env a := by
            intro ws
            induction ws with
            | nil => intro ss _ hm; cases ss <;> cases hm
            | cons u us ih =>
              intro ss hs hm
              cases ss with
              | nil => cases hm
              | cons s ss =>
                cases s with
                | fz d => exact ih hs.2.1 hm
                | plc k => exact ih hs.2.1 hm
                | own d =>
                  rcases List.mem_cons.mp hm with rfl | hm
                  · obtain ⟨b, g1, _, _, g4⟩ := hs.1
                    cases g1
                    exact g4
                  · exact ih hs.2.1 hm
          exact this h.2.1 hm ⟨i, q⟩
      · rcases O2 a z with ⟨j, q2, _⟩ | hm
        · obtain ⟨b, g1, _, _, g4⟩ := h.1
          rw [ev] at g1
          cases g1
          exact g4 ⟨j, q2⟩
        · exact h.2.2 ⟨d', rfl⟩ (by rw [ev]; exact hm)
    have tl : ∀ j a, OwnsAt (mst (v :: vs)) (x :: xs) (j + 1) a → OwnsAt (mst vs) xs j a := fun j a ⟨y, d, h1, h2, h3⟩ => ⟨y, d, by simpa using h1, h2, by simpa [mst] using h3⟩
    have hd : ∀ a, OwnsAt (mst (v :: vs)) (x :: xs) 0 a → (∃ d, x.isOwn = some d) ∧ v = .ref a := fun a ⟨y, d, h1, h2, h3⟩ => by
      simp at h1
      subst h1
      simp [mst] at h3
      exact ⟨⟨d, h2⟩, h3⟩
    refine ⟨⟨A.same, ?_, fun j y ey => ?_, fun i j a h1 h2 => ?_⟩, fun a ⟨j, hj⟩ => ?_⟩
    · have := A2.len
      simp [mst] at this ⊢
      exact this
    · cases j with
      | zero => simp at ey; subst ey; simpa [mst] using hx
      | succ j =>
        have := A2.slot j y (by simpa using ey)
        simpa [mst] using this
    · cases i with
      | zero =>
        cases j with
        | zero => rfl
        | succ j =>
          obtain ⟨⟨d, o⟩, ev⟩ := hd a h1
          exact (sep a d o ev ⟨j, tl j a h2⟩).elim
      | succ i =>
        cases j with
        | zero =>
          obtain ⟨⟨d, o⟩, ev⟩ := hd a h2
          exact (sep a d o ev ⟨i, tl i a h1⟩).elim
        | succ j => rw [A2.inj i j a (tl i a h1) (tl j a h2)]
    · cases j with
      | zero =>
        obtain ⟨⟨d, o⟩, ev⟩ := hd a hj
        rcases own0 a d o ev with ⟨i, q, rfl⟩ | ⟨d', rfl⟩
        · exact .inl ⟨i, q, by simp [placed]⟩
        · exact .inr (by rw [ev]; exact List.mem_cons_self)
      | succ j =>
        rcases O2 a ⟨j, tl j a hj⟩ with ⟨i, q, q2⟩ | hm
        · exact .inl ⟨i, q, by cases r <;> simp [placed, q2]⟩
        · refine .inr ?_
          cases r with
          | fz d => exact hm
          | plc i => exact hm
          | own d => exact List.mem_cons_of_mem _ hm
  | [], _ :: _, _, h, _, _ => h.elim
  | _ :: _, [], _, h, _, _ => h.elim
end
theorem rvs_get {K : PySem.W.Frag} {F H : Hp} {σ : L2.St} {env : MEnv} : ∀ {vs : List V} {rs : List RV} {j : Nat} {r : RV}, rvsOk K F H σ env vs rs → rs[j]? = some r → ∃ v, vs[j]? = some v ∧ r.ok K F H σ env v
  | [], [], _, _, _, e => by simp at e
  | v :: vs, r :: rs, 0, _, h, e => by simp at e; subst e; exact ⟨v, rfl, h.1⟩
  | v :: vs, r :: rs, j + 1, _, h, e => by
    obtain ⟨u, h1, h2⟩ := rvs_get (j := j) h.2.1 (by simpa using e)
    exact ⟨u, by simpa using h1, h2⟩
  | [], _ :: _, _, _, h, _ => h.elim
  | _ :: _, [], _, _, h, _ => h.elim
theorem SV.back_lock {x y : SV} (h : x.lock = true) : (x.back y).lock = true := by
  cases x with
  | unb => cases h
  | fz _ => cases h
  | own _ => cases h
  | ref _ => cases y <;> rfl
  | rfz _ => cases y <;> rfl
theorem SV.back_own {x y : SV} {d : PyData} (h : (x.back y).isOwn = some d) : ∃ d', x.isOwn = some d' := by
  cases x with
  | own d' => exact ⟨d', rfl⟩
  | ref d' => exact ⟨d', rfl⟩
  | unb => cases h
  | fz _ => cases h
  | rfz _ => cases h
section
variable {K : PySem.W.Frag} {F H F1 H1 F' H' : Hp} {σ : L2.St} {env env1 : MEnv} {vs : List V} {rs : List RV} {as bs : List SV}
theorem call_back (A1 : Abs K F1 H1 σ env1) (f1 : Frm F H σ env F1 H1 σ env1) (o1 : rvsOk K F1 H1 σ env1 vs rs) (n1 : rvsNew H vs rs) (ea : argSVs env1 rs = some as) (ap : apart rs = true)
    (A2 : Abs K F' H' (mst vs) bs) (f2 : Frm F1 H1 (mst vs) as F' H' (mst vs) bs) (pb : bs.all SV.plain = true) :
    Abs K F' H' σ (backSVs rs bs 0 env1) ∧ Frm F H σ env F' H' σ (backSVs rs bs 0 env1) := by
  obtain ⟨Aa, Oa⟩ := args_abs A1 o1 ea ap
  have hbl : bs.length = rs.length := by rw [f2.len, argSVs_length ea]
  have get2 : ∀ i z, (backSVs rs bs 0 env1)[i]? = some z → ∃ x, env1[i]? = some x ∧ z = backAt rs bs i x := fun i z e => by
    rw [backSVs_get, Nat.zero_add] at e
    cases q : env1[i]? with
    | none => rw [q] at e; cases e
    | some x => rw [q] at e; exact ⟨x, rfl, (Option.some.inj e).symm⟩
  have own1 : ∀ i a, OwnsAt σ (backSVs rs bs 0 env1) i a → OwnsAt σ env1 i a := fun i a ⟨z, d, h1, h2, h3⟩ => by
    obtain ⟨x, e, rfl⟩ := get2 i z h1
    unfold backAt at h2
    split at h2
    · obtain ⟨d', q⟩ := SV.back_own h2
      exact ⟨x, d', e, q, h3⟩
    · exact ⟨x, d, e, h2, h3⟩
  have newT : ∀ a, V.ref a ∈ ownVs vs rs → H a = none := fun a hm => by
    obtain ⟨b, e, n⟩ := n1 _ hm
    cases e
    exact n
  have h1None : ∀ a, H1 a = none → H a = none := fun a z => by
    cases q : H a with
    | none => rfl
    | some u =>
      obtain ⟨o, ho⟩ := f1.there a u q
      rw [z] at ho; cases ho
  refine ⟨⟨A2.same, by rw [backSVs_length]; exact A1.len, fun i z e => ?_, fun i j a g1 g2 => A1.inj i j a (own1 i a g1) (own1 j a g2)⟩,
    ⟨f1.sameF.trans f2.sameF, fun a o h n => ?_, fun a o h => ?_, fun a o h => ?_, fun a ⟨i, h⟩ => f1.own a ⟨i, own1 i a h⟩, fun a ⟨i, d, g1, g3⟩ => ?_, fun i x e l => ?_, by rw [backSVs_length]; exact f1.len⟩⟩
  · obtain ⟨x, ex, rfl⟩ := get2 i z e
    have sl := A1.slot i x ex
    unfold backAt
    split
    · rename_i y hf
      obtain ⟨j, g1, g2⟩ := findSV_some hf
      obtain ⟨v, hv, ov⟩ := rvs_get o1 g1
      have ov' : σ[i]? = some (some v) := ov
      have sy := A2.slot j y g2
      have hm : (mst vs)[j]? = some (some v) := by simp [mst, hv]
      rw [hm, ← ov'] at sy
      have py := plain_at pb g2
      have fzok : ∀ d, (∃ v, σ[i]? = some (some v) ∧ Rp K F1 v d) → ∃ v, σ[i]? = some (some v) ∧ Rp K F' v d := fun d ⟨u, q, r⟩ => ⟨u, q, r.mono f2.sameF⟩
      cases x with
      | unb => trivial
      | fz d => exact fzok d sl
      | rfz d => exact fzok d sl
      | own d => cases y with
        | own d' => exact sy
        | fz d' => exact sy
        | _ => cases py
      | ref d => cases y with
        | own d' => exact sy
        | fz d' => exact sy
        | _ => cases py
    · rename_i hf
      have np := findSV_none hbl hf
      have own : ∀ d, x.isOwn = some d → (∃ a, σ[i]? = some (some (.ref a)) ∧ F1 a = none ∧ OwnC K F1 H1 a d) → ∃ a, σ[i]? = some (some (.ref a)) ∧ F' a = none ∧ OwnC K F' H' a d := fun d o ⟨a, q, fa, c⟩ => by
        obtain ⟨u, hu⟩ := c.there
        have nw : ¬ Owns (mst vs) as a := fun z => by
          rcases Oa a z with ⟨k, q2, q3⟩ | hm
          · have := A1.inj i k a ⟨x, d, ex, o, q⟩ q2
            subst this
            have : ∀ {ss : List RV}, placed i ss = true → ∃ j : Nat, ss[j]? = some (RV.plc i) := by
              intro ss
              induction ss with
              | nil => intro h; cases h
              | cons s ss ih =>
                intro h
                cases s with
                | plc k =>
                  by_cases hk : k = i
                  · subst hk; exact ⟨0, rfl⟩
                  · simp [placed, hk] at h
                    obtain ⟨j, hj⟩ := ih h
                    exact ⟨j + 1, by simpa using hj⟩
                | fz d => obtain ⟨j, hj⟩ := ih h; exact ⟨j + 1, by simpa using hj⟩
                | own d => obtain ⟨j, hj⟩ := ih h; exact ⟨j + 1, by simpa using hj⟩
            obtain ⟨j, hj⟩ := this q3
            exact np j hj
          · have g : ∀ {ws : List V} {ss : List RV}, rvsOk K F1 H1 σ env1 ws ss → V.ref a ∈ ownVs ws ss → ¬ Owns σ env1 a := by
              intro ws
              induction ws with
              | nil => intro ss _ hm; cases ss <;> cases hm
              | cons u us ih =>
                intro ss hs hm
                cases ss with
                | nil => cases hm
                | cons s ss =>
                  cases s with
                  | fz d => exact ih hs.2.1 hm
                  | plc k => exact ih hs.2.1 hm
                  | own d =>
                    rcases List.mem_cons.mp hm with rfl | hm
                    · obtain ⟨b, g1, _, _, g4⟩ := hs.1
                      cases g1
                      exact g4
                    · exact ih hs.2.1 hm
            exact g o1 hm ⟨i, x, d, ex, o, q⟩
        refine ⟨a, q, ?_, c.keep f2.sameF fun u hu => f2.keep a u hu nw⟩
        cases z : F' a with
        | none => rfl
        | some u' =>
          rcases f2.new a u' z with z | z | z
          · rw [fa] at z; cases z
          · rw [hu] at z; cases z
          · exact (nw z).elim
      cases x with
      | unb => trivial
      | fz d => obtain ⟨v, q, r⟩ := sl; exact ⟨v, q, r.mono f2.sameF⟩
      | rfz d => obtain ⟨v, q, r⟩ := sl; exact ⟨v, q, r.mono f2.sameF⟩
      | own d => exact own d rfl sl
      | ref d => exact own d rfl sl
  · have hh := f1.keep a o h n
    refine f2.keep a o hh fun z => ?_
    rcases Oa a z with ⟨i, q, _⟩ | hm
    · rcases f1.own a ⟨i, q⟩ with z | z
      · exact n z
      · rw [h] at z; cases z
    · rw [newT a hm] at h; cases h
  · obtain ⟨o1, h1⟩ := f1.there a o h
    exact f2.there a o1 h1
  · rcases f2.new a o h with z | z | z
    · exact f1.new a o z
    · exact .inr (.inl (h1None a z))
    · rcases Oa a z with ⟨i, q, _⟩ | hm
      · rcases f1.own a ⟨i, q⟩ with z | z
        · exact .inr (.inr z)
        · exact .inr (.inl z)
      · exact .inr (.inl (newT a hm))
  · obtain ⟨x, ex, ez⟩ := get2 i _ g1
    unfold backAt at ez
    split at ez
    · rename_i y hf
      cases x with
      | own d' => exact f1.ownU a ⟨i, d', ex, g3⟩
      | unb => cases ez
      | fz _ => cases ez
      | rfz _ => cases ez
      | ref d' => cases y <;> cases ez
    · subst ez
      exact f1.ownU a ⟨i, d, ex, g3⟩
  · obtain ⟨_, x1, q2, q3⟩ := f1.lock i x e l
    refine ⟨rfl, backAt rs bs i x1, ?_, ?_⟩
    · rw [backSVs_get, Nat.zero_add, q2]
      rfl
    · unfold backAt
      split
      · exact SV.back_lock q3
      · exact q3
end
section
variable {X : Cx} {k : Nat} {f : Addr} {fd : FuncData} {ps : List Str} {x : Str} {p pos : Pos} {e : Expr} {es : List Expr} {ms : MA} {C : CF} {n : Nat}
theorem user_to {K : PySem.W.Frag} {σ : L2.St} {H : Hp} {Q : VK} (hn : ∀ as q, C as = some q → as.length = n) (h : tE K (eUser C ms) σ H Q) : tCall (spOf n C K) [] E0 (tAs K ms) σ H Q := by
  obtain ⟨F, env, A, env', r, em, kk⟩ := h
  obtain ⟨⟨env1, rs⟩, e1, em⟩ := bind_some em
  obtain ⟨as, e2, em⟩ := bind_some em
  split at em
  case isFalse => cases em
  rename_i hc
  obtain ⟨⟨bs, r1⟩, e3, em⟩ := bind_some em
  split at em
  case isFalse => cases em
  rename_i pb
  refine ⟨F, env, A, env1, rs, e1, fun vs F1 H1 A1 f1 o1 n1 => ?_⟩
  obtain ⟨Aa, Oa⟩ := args_abs A1 o1 e2 hc.1
  rw [List.append_nil]
  have hl : vs.length = n := by
    have := hn as _ e3
    rw [argSVs_length e2] at this
    rw [rvsOk.length o1]
    exact this
  refine ⟨F1, as, hl, hc.2, Aa, bs, r1, e3, fun v F' H' A2 f2 ok nw => ?_⟩
  obtain ⟨A3, f3⟩ := call_back A1 f1 o1 n1 e2 hc.1 A2 f2 pb
  cases r1 with
  | plc i => cases em
  | fz d => cases em; exact kk v F' H' A3 f3 ok trivial
  | own d =>
    cases em
    obtain ⟨a, q1, q2, q3, q4⟩ := ok
    obtain ⟨a', g1, g2⟩ := nw
    rw [q1] at g1
    cases g1
    have h0 : H a = none := by
      cases q : H a with
      | none => rfl
      | some u =>
        obtain ⟨o, ho⟩ := f1.there a u q
        rw [g2] at ho; cases ho
    refine kk v F' H' A3 f3 ⟨a, q1, q2, q3, fun z => ?_⟩ ⟨a, q1, h0⟩
    obtain ⟨i, zz, dd, w1, w2, w3⟩ := z
    rw [backSVs_get, Nat.zero_add] at w1
    cases q : env1[i]? with
    | none => rw [q] at w1; cases w1
    | some y =>
      rw [q] at w1
      have ez : backAt rs bs i y = zz := Option.some.inj w1
      subst ez
      have ow : ∃ d', y.isOwn = some d' := by
        unfold backAt at w2
        split at w2
        · exact SV.back_own w2
        · exact ⟨dd, w2⟩
      obtain ⟨d', ow⟩ := ow
      obtain ⟨_, o, ho⟩ := A1.ownsF ⟨i, y, d', q, ow, w3⟩
      rw [g2] at ho; cases ho
/-- f(..) -/
theorem pe_callG {CX : CXT} {sp : Sp} {dvs : List V} {ds : List Value} {E : XK} {t : TA} (F : FnOkG X.prog X.w X.K X.mg X.base CX k f fd ps sp) (hr : RoomG k X.A) (hg : Gl X x) (hm : X.mg x = some (.ref f)) (hk : PySem.W.keepIn X.K (.ref f) = true) (hb : Binds X.K fd ps ds) (hd : Vals dvs ds) (hx : Passes CX X E)
    (ha : PA X (e :: es) t) (hdb : (x == ("__debug__" : Str)) = false := by decide) (he : starEach (e :: es) X.env = (false, eval e X.env) :: starEach es X.env := by rfl) (hpl : (backTo pos (starEach es X.env)).any (·.1) = false := by rfl) :
    PE X (.Call (.Name x p) (e :: es) [] pos) (tCall sp dvs E t) := by
  constructor
  intro pins s σ H Q I h
  refine wpAny_Call_Name_kw (ld_glob I hg hm (PySem.W.callWith_K (h₀ := X.base) I.ok.mod.kin hk (thn (ha.run pos pins s σ H _ I h) ?_) he hpl) hdb)
  rintro us s1 ⟨vs, H1, I1, r, q⟩
  refine ⟨I1.kIn, ?_⟩
  have rr : Vals (vs ++ dvs) (us ++ ds) := r.append hd
  have hl : (us ++ ds).length = ps.length := rr.length.symm.trans (F.len _ _ _ _ q)
  refine wpAny_call (codeAny_mono (F.go X.A X.stack s1 H1 ⟨us, []⟩ (us ++ ds) (vs ++ dvs) Q E hr I1.env0 (hb s1 us I1.kIn hl) rr q) ?_)
  intro r s2 hq
  cases r with
  | error ex => exact hx pins σ H1 s1 ex s2 I1 hq
  | ok fl => cases fl with
    | ret u => exact I1.after hq
    | _ => exact (show False from hq).elim
theorem re_user (hn : ∀ as q, C as = some q → as.length = n) (G : FnOkG X.prog X.w X.K X.mg X.base CX0 k f fd ps (spOf n C X.K)) (hr : RoomG k X.A) (hg : Gl X x) (hm : X.mg x = some (.ref f)) (hk : PySem.W.keepIn X.K (.ref f) = true) (hb : Binds X.K fd ps [])
    (ha : PA X (e :: es) (tAs X.K ms)) (hdb : (x == ("__debug__" : Str)) = false := by decide) (he : starEach (e :: es) X.env = (false, eval e X.env) :: starEach es X.env := by rfl) (hpl : (backTo pos (starEach es X.env)).any (·.1) = false := by rfl) :
    PE X (.Call (.Name x p) (e :: es) [] pos) (tE X.K (eUser C ms)) := pe_imp (pe_callG G hr hg hm hk hb .nil pass0 ha hdb he hpl) fun _ _ _ => user_to hn
end
theorem runF_len {n l : Nat} {body : MS} : ∀ as q, runF n l body as = some q → as.length = n := fun as q h => by
  unfold runF at h
  split at h
  · rename_i hc
    exact hc.1
  · cases h
end L3

/-! L3G: operators, built-ins, methods by data. -/
namespace L3
open PySem PySem.Spec PyProof.Rows L2

/-! ### data off the heap -/
section
variable {X : Cx} {pins : List (Addr × Obj)} {σ : L2.St} {H : Hp} {s : Shared}
theorem pairs_keys {P : Program} {w : World} : ∀ {es : List DictEntry} {vs : List (Key × Value)}, Pairs (mixKind P w) es vs → ∀ h : Heap, ∃ as, ReadsAll h (es.map (·.key)) (vs.map fun p => keyD p.1) as ∧ sysModules ∉ as
  | _, _, .nil, h => ⟨[], .nil, by simp⟩
  | _, _, .cons hk _ t, h => by
    obtain ⟨as, q, n⟩ := pairs_keys t h
    rcases keyIs_shape hk with ⟨i, tk, e1, e2⟩ | ⟨x, tk, e1, e2⟩
    · refine ⟨[] ++ as, .cons ?_ q, by simpa using n⟩
      dsimp only
      rw [e1, e2]
      exact Reads.int _ _
    · refine ⟨[] ++ as, .cons ?_ q, by simpa using n⟩
      dsimp only
      rw [e1, e2]
      exact Reads.str _ _
theorem pairs_vals {P : Program} {w : World} : ∀ {es : List DictEntry} {vs : List (Key × Value)}, Pairs (mixKind P w) es vs → es.map (·.val) = vs.map (·.2)
  | _, _, .nil => rfl
  | _, _, .cons _ e t => by
    rw [List.map_cons, List.map_cons, e, pairs_vals t]
theorem kv_vals : ∀ {kvs : List (Key × V)} {vs : List (Key × Value)}, KV kvs vs → Vals (kvs.map (·.2)) (vs.map (·.2)) ∧ vs.map (·.1) = kvs.map (·.1)
  | _, _, .nil => ⟨.nil, rfl⟩
  | _, _, .cons h t => by
    obtain ⟨a, b⟩ := kv_vals t
    exact ⟨.cons h.2 a, by rw [List.map_cons, List.map_cons, h.1, b]⟩
end

/-! ### kinds -/
def tyName : PyData → String
  | .none => "NoneType"
  | .bool _ => "bool"
  | .int _ => "int"
  | .str _ => "str"
  | .list _ => "list"
  | .tuple _ => "tuple"
  | .dict _ => "dict"
inductive Ty where
  | int | bool | str | list | tuple | dict
def Ty.name : Ty → String
  | .int => "int"
  | .bool => "bool"
  | .str => "str"
  | .list => "list"
  | .tuple => "tuple"
  | .dict => "dict"
def isiB : Ty → PyData → Bool
  | .int, .int _ => true
  | .int, .bool _ => true
  | .bool, .bool _ => true
  | .str, .str _ => true
  | .list, .list _ => true
  | .tuple, .tuple _ => true
  | .dict, .dict _ => true
  | _, _ => false
theorem kit_isi : ∀ (t : Ty) (d : PyData), kitB (tyName d) t.name = some (isiB t d) := by
  have h : ∀ (t : Ty), kitB "NoneType" t.name = some false ∧ kitB "bool" t.name = some (match t with | .int => true | .bool => true | _ => false) ∧ kitB "int" t.name = some (match t with | .int => true | _ => false) ∧
      kitB "str" t.name = some (match t with | .str => true | _ => false) ∧ kitB "list" t.name = some (match t with | .list => true | _ => false) ∧ kitB "tuple" t.name = some (match t with | .tuple => true | _ => false) ∧ kitB "dict" t.name = some (match t with | .dict => true | _ => false) := by
    intro t
    cases t <;> (refine ⟨?_, ?_, ?_, ?_, ?_, ?_, ?_⟩ <;> decide +kernel)
  intro t d
  obtain ⟨h1, h2, h3, h4, h5, h6, h7⟩ := h t
  cases d with
  | none => exact h1.trans (by cases t <;> rfl)
  | bool b => exact h2.trans (by cases t <;> rfl)
  | int b => exact h3.trans (by cases t <;> rfl)
  | str b => exact h4.trans (by cases t <;> rfl)
  | list b => exact h5.trans (by cases t <;> rfl)
  | tuple b => exact h6.trans (by cases t <;> rfl)
  | dict b => exact h7.trans (by cases t <;> rfl)
section
variable {X : Cx} {pins : List (Addr × Obj)} {σ : L2.St} {H : Hp} {s : Shared}
theorem kit_rp {v : V} {u : Value} {d : PyData} (I : Inv X pins σ H s) (h : Rp X.K H v d) (r : RelV v u) : ∃ P : Heap → Prop, PySem.W.KitX X.K u (.type (tyName d)) P ∧ P s.heap ∧ u ≠ .builtin "__main__.__loader__#opaque" := by
  cases h with
  | non => cases r; exact ⟨_, PySem.W.kitx_none, True.intro, fun z => nomatch z⟩
  | bl b => cases r; exact ⟨_, PySem.W.kitx_bool, True.intro, fun z => nomatch z⟩
  | int i => obtain ⟨t, rfl⟩ := r; exact ⟨_, PySem.W.kitx_int, True.intro, fun z => nomatch z⟩
  | str y => obtain ⟨t, rfl⟩ := r; exact ⟨_, PySem.W.kitx_str, True.intro, fun z => nomatch z⟩
  | lst q _ =>
    cases r
    obtain ⟨its, _, ⟨o, n, e, c, _⟩, _⟩ := I.list q
    exact ⟨_, PySem.W.kitx_list, ⟨o, e, c⟩, fun z => nomatch z⟩
  | tup q _ =>
    cases r
    obtain ⟨its, _, ⟨o, e, c, _⟩, _⟩ := I.tuple (SqT.of q)
    exact ⟨_, PySem.W.kitx_tuple, ⟨o, e, c⟩, fun z => nomatch z⟩
  | dK q _ =>
    cases r
    obtain ⟨_, _, vs, _, o, es, ep, e, c, _⟩ := (show ObjOk X.prog X.w H s.heap _ (.dK _) from I.hok _ _ q)
    exact ⟨_, PySem.W.kitx_dict, ⟨o, e, c.1⟩, fun z => nomatch z⟩
  | dT q _ _ =>
    cases r
    obtain ⟨_, _, vs, _, o, es, ep, e, c, _⟩ := (show ObjOk X.prog X.w H s.heap _ (.dT _) from I.hok _ _ q)
    exact ⟨_, PySem.W.kitx_dict, ⟨o, e, c.1⟩, fun z => nomatch z⟩
end
/-- isinstance(m, T) -/
def isi (t : Ty) : PyData → Option RV := fun d => some (.fz (.bool (isiB t d)))
def isiAny (ts : List Ty) : PyData → Option RV := fun d => some (.fz (.bool (ts.any fun t => isiB t d)))
section
variable {X : Cx} {m : ME} {e : Expr} {p p2 pos : Pos}
theorem call_isiD (t : Ty) : CallR X (.builtin "isinstance") (fun xs H Q => ∃ x F d, xs = [x, .ty t.name] ∧ Same F H ∧ Rk X.K F H x d ∧ Q (.bl (isiB t d)) H) := by
  intro pins s σ H xs us Q I r ⟨x, F, d, e, sm, k, q⟩
  subst e
  obtain ⟨u1, u2, rfl, r1, r2⟩ := vals2 r
  cases r2
  obtain ⟨P, Z, pp, hx⟩ := kit_rp I (k.rp sm) r1
  exact PySem.W.kia_one Z I.kIn pp (kit_ty (kit_isi t d)) hx fun tk => ⟨.bl _, H, I.tok tk, rfl, q⟩
theorem re_isi {x : Str} (t : Ty) (hg : Gl X "isinstance") (hm : X.mg "isinstance" = none) (he : PE X e (tE X.K m)) (hg2 : Gl X x) (hm2 : X.mg x = none) (hv2 : bootBuiltins x = some (.type t.name)) (hn : x ≠ "__name__" := by decide) (hd : (x == ("__debug__" : Str)) = false := by decide)
    (h1 : starEach [e, .Name x p2] X.env = (false, eval e X.env) :: starEach [.Name x p2] X.env := by rfl) (h2 : starEach [.Name x p2] X.env = (false, eval (.Name x p2) X.env) :: starEach [] X.env := by rfl) (hpl : (backTo pos (starEach [.Name x p2] X.env)).any (·.1) = false := by rfl) :
    PE X (.Call (.Name "isinstance" p) [e, .Name x p2] [] pos) (tE X.K (eOp1 (isi t) m)) := by
  refine pe_imp (pe_callB (call_isiD t) hg hm (by decide +kernel) (pa_cons he (pa_cons (pe_bltn (v := .ty t.name) hg2 hm2 hv2 rfl hn hd) pa_nil h2) h1) (by decide) (by decide) h1 hpl) fun σ H Q h => ?_
  obtain ⟨F, env, A, env', r, em, k⟩ := h
  obtain ⟨⟨env1, r1⟩, e1, em⟩ := bind_some em
  obtain ⟨d, e2, em⟩ := bind_some em
  cases em
  exact ⟨F, env, A, env1, r1, e1, fun v F1 H1 A1 f1 o1 n1 => ⟨v, F1, d, rfl, A1.same, RV.ok.rk o1 A1 e2, k _ F1 H1 A1 f1 (.bl _) trivial⟩⟩
theorem call_isiT2 (t t' : Ty) : CallR X (.builtin "isinstance") (fun xs H Q => ∃ x F d tp, xs = [x, .ref tp] ∧ Same F H ∧ Rk X.K F H x d ∧ H tp = some (.tup [.ty t.name, .ty t'.name]) ∧ Q (.bl ([t, t'].any fun t => isiB t d)) H) := by
  intro pins s σ H xs us Q I r ⟨x, F, d, tp, e, sm, k, hT, q⟩
  subst e
  obtain ⟨u1, u2, rfl, r1, r2⟩ := vals2 r
  cases r2
  obtain ⟨P, Z, pp, hx⟩ := kit_rp I (k.rp sm) r1
  obtain ⟨_, its, rv, o, h1, h2, n, h3⟩ := (show ObjOk X.prog X.w H s.heap tp (.tup _) from I.hok tp _ hT)
  have e3 : its = [Value.type t.name, Value.type t'.name] := by
    cases rv with
    | cons a rv =>
      cases rv with
      | cons b rv =>
        cases rv
        cases a
        cases b
        rfl
  subst e3
  obtain ⟨oc, od, dt, sl⟩ := o
  simp only at h2 h3
  subst h2 h3
  have ka : PySem.W.kitAny X.K (.type (tyName d)) [Value.type t.name, Value.type t'.name] = some (isiB t d || isiB t' d) := by
    cases g1 : isiB t d with
    | false =>
      refine kitAny_cons (b := false) (by rw [kit_ty (kit_isi t d), g1]) (fun _ => ?_) (fun z => by cases z)
      cases g2 : isiB t' d with
      | false => exact kitAny_cons (b := false) (by rw [kit_ty (kit_isi t' d), g2]) (fun _ => kitAny_nil) (fun z => by cases z)
      | true => exact kitAny_cons (b := true) (by rw [kit_ty (kit_isi t' d), g2]) (fun z => by cases z) (fun _ => rfl)
    | true => exact kitAny_cons (b := true) (by rw [kit_ty (kit_isi t d), g1]) (fun z => by cases z) (fun _ => rfl)
  refine PySem.W.kia_tup Z I.kIn pp h1 ka hx fun tk => ⟨.bl _, H, I.tok tk, rfl, ?_⟩
  have e5 : ([t, t'].any fun t => isiB t d) = (isiB t d || isiB t' d) := by simp
  rw [← e5]
  exact q
/-- isinstance(e, (T1, T2)) -/
theorem re_isi2 {x y : Str} {k2 : Nat} {p3 p4 : Pos} (t t' : Ty) (hg : Gl X "isinstance") (hm : X.mg "isinstance" = none) (he : PE X e (tE X.K m)) (hg2 : Gl X x) (hm2 : X.mg x = none) (hv2 : bootBuiltins x = some (.type t.name)) (hg3 : Gl X y) (hm3 : X.mg y = none) (hv3 : bootBuiltins y = some (.type t'.name))
    (hn : x ≠ "__name__" := by decide) (hd : (x == ("__debug__" : Str)) = false := by decide) (hn' : y ≠ "__name__" := by decide) (hd' : (y == ("__debug__" : Str)) = false := by decide)
    (h1 : starEach [e, .Tuple [.Name x p2, .Name y p3] k2 p4] X.env = (false, eval e X.env) :: starEach [.Tuple [.Name x p2, .Name y p3] k2 p4] X.env := by rfl) (h2 : starEach [.Tuple [.Name x p2, .Name y p3] k2 p4] X.env = (false, eval (.Tuple [.Name x p2, .Name y p3] k2 p4) X.env) :: starEach [] X.env := by rfl)
    (h3 : starEach [.Name x p2, .Name y p3] X.env = (false, eval (.Name x p2) X.env) :: starEach [.Name y p3] X.env := by rfl) (h4 : starEach [.Name y p3] X.env = (false, eval (.Name y p3) X.env) :: starEach [] X.env := by rfl) (hpl : (backTo pos (starEach [.Tuple [.Name x p2, .Name y p3] k2 p4] X.env)).any (·.1) = false := by rfl) :
    PE X (.Call (.Name "isinstance" p) [e, .Tuple [.Name x p2, .Name y p3] k2 p4] [] pos) (tE X.K (eOp1 (isiAny [t, t']) m)) := by
  refine pe_imp (pe_callB (call_isiT2 t t') hg hm (by decide +kernel) (pa_cons he (pa_cons (pe_tup (pa_cons (pe_bltn (v := .ty t.name) hg2 hm2 hv2 rfl hn hd) (pa_cons (pe_bltn (v := .ty t'.name) hg3 hm3 hv3 rfl hn' hd') pa_nil h4) h3)) pa_nil h2) h1) (by decide) (by decide) h1 hpl) fun σ H Q h => ?_
  obtain ⟨F, env, A, env', r, em, k⟩ := h
  obtain ⟨⟨env1, r1⟩, e1, em⟩ := bind_some em
  obtain ⟨d, e2, em⟩ := bind_some em
  cases em
  refine ⟨F, env, A, env1, r1, e1, fun v F1 H1 A1 f1 o1 n1 => ⟨by show 2 ≤ sizeLine; rw [sizeLine_eq]; decide, fun tp hp => ?_⟩⟩
  have sH : Same H1 (upd H1 tp (.tup [.ty t.name, .ty t'.name])) := fun b o q => by rw [upd_ne (ne_of_none q hp)]; exact q
  obtain ⟨A2, f2⟩ := grow A1 (Same.refl F1) sH (A1.same.trans sH) fun _ _ h => .inl h
  exact ⟨v, F1, d, tp, rfl, A2.same, RV.ok.rk (RV.ok.keep o1 f2) A2 e2, upd_same, k _ F1 _ A2 (f1.trans f2) (.bl _) trivial⟩
end

/-! ### operators -/
def fzI (i : Int) : Option RV := some (.fz (.int i))
def fzB (b : Bool) : Option RV := some (.fz (.bool b))
def fzS (x : Str) : Option RV := some (.fz (.str x))
def addD : PyData → PyData → Option RV
  | .int i, .int j => fzI (i + j)
  | .str x, .str y => if x.length + y.length ≤ lineN then fzS (x ++ y) else none
  | .list xs, .list ys => if xs.length + ys.length ≤ lineN then some (.own (.list (xs ++ ys))) else none
  | .tuple xs, .tuple ys => if xs.length + ys.length ≤ lineN then some (.fz (.tuple (xs ++ ys))) else none
  | _, _ => none
def subD : PyData → PyData → Option RV
  | .int i, .int j => fzI (i - j)
  | _, _ => none
def small64 (i : Int) : Bool := decide (-(2 ^ 64) < i ∧ i < 2 ^ 64)
def mulD : PyData → PyData → Option RV
  | .int i, .int j => if small64 i = true ∨ small64 j = true then fzI (i * j) else none
  | _, _ => none
def divD : PyData → PyData → Option RV
  | .int i, .int j => if 0 < j ∧ j < 1073741824 then fzI (i / j) else none
  | _, _ => none
def modD : PyData → PyData → Option RV
  | .int i, .int j => if 0 < j then fzI (i % j) else none
  | _, _ => none
def powD : PyData → PyData → Option RV
  | .int i, .int j => if 0 ≤ j ∧ j ≤ 1000000 ∧ i.natAbs < 2 ^ 64 then fzI (i ^ j.toNat) else none
  | _, _ => none
def negD : PyData → Option RV
  | .int i => fzI (-i)
  | _ => none
theorem Rk.tupF {K : PySem.W.Frag} {F H : Hp} {v : V} {ds : List PyData} (h : Rk K F H v (.tuple ds)) : Rp K F v (.tuple ds) := by
  rcases h with h | ⟨a, _, q⟩
  · exact h
  · exact q.elim
section
variable {X : Cx}
theorem line_le {n : Nat} (h : n ≤ lineN) : n ≤ sizeLine := by rw [← lineN_eq]; exact h
/-- list + list, wherever the two stand -/
theorem cat_lists {pins : List (Addr × Obj)} {s : Shared} {σ : L2.St} {F H : Hp} {Q : VK} {a b : Addr} {xs ys : List V} {ds es : List PyData} (I : Inv X pins σ H s) (sm : Same F H) (h1 : SqL X.K H a xs) (h2 : SqL X.K H b ys)
    (r1 : RpAll X.K F xs ds) (r2 : RpAll X.K F ys es) (hz : ds.length + es.length ≤ lineN) (g : Gives X.K F H Q (.own (.list (ds ++ es)))) : wpAny (model X.prog X.w) X.A (binaryOp .Add (.ref a) (.ref b)) (EP X pins σ Q) X.xe s := by
  obtain ⟨iA, vA, ⟨oA, nA, gA, cA, dA, eA⟩, _⟩ := I.list h1
  obtain ⟨iB, vB, ⟨oB, nB, gB, cB, dB, eB⟩, _⟩ := I.list h2
  obtain ⟨c1, c2, c3, c4⟩ := oA
  obtain ⟨k1, k2, k3, k4⟩ := oB
  simp only at cA dA eA cB dB eB
  subst cA dA eA cB dB eB
  have hl : iA.length + iB.length ≤ sizeLine := by
    have q1 := vA.length
    have q2 := vB.length
    have q3 := r1.length
    have q4 := r2.length
    have q5 := line_le hz
    omega
  refine concat_meets ⟨_, gA, rfl⟩ ⟨_, gB, rfl⟩ noFill_list_add seq_list_add PySem.F.slot_list_add PySem.F.entry_list_add (PySem.F.args_list_add_2 _ _) (list_addW a b iA.toArray iB.toArray nA nB none none c4 k4 (by simpa using hl)) ⟨gA, gB, ?_⟩
  have ej : iA.toArray ++ iB.toArray = (iA ++ iB).toArray := by simp
  rw [ej]
  exact ⟨.ref _, _, I.lnew (t' := s.toks) (vA.append vB) (by rw [List.length_append, vA.length, vB.length]; exact hl), rfl, g.newList sm (r1.append r2) I.fresh⟩
theorem o_add : OpR X (binaryOp .Add) (rOp2 X.K addD) := by
  intro pins s σ H x y v u Q I rx ry ⟨F, d, e, r, sm, kx, ky, hf, g⟩
  unfold addD at hf
  split at hf
  · rw [kx.int] at rx; rw [ky.int] at ry
    cases hf
    exact op_add pins s σ H _ _ v u Q I rx ry ⟨_, _, rfl, rfl, g.flat sm (.int _)⟩
  · split at hf
    · rename_i hz
      rw [kx.str] at rx; rw [ky.str] at ry
      cases hf
      exact op_add_str pins s σ H _ _ v u Q I rx ry ⟨_, _, rfl, rfl, line_le hz, g.flat sm (.str _)⟩
    · cases hf
  · split at hf
    · rename_i hz
      cases hf
      obtain ⟨a, xs, rfl, h1, r1⟩ := kx.lst sm
      obtain ⟨b, ys, rfl, h2, r2⟩ := ky.lst sm
      cases rx
      cases ry
      exact cat_lists I sm h1 h2 r1 r2 hz g
    · cases hf
  · split at hf
    · rename_i hz
      cases hf
      obtain ⟨a, xs, rfl, h1, r1⟩ := kx.tup sm
      obtain ⟨b, ys, rfl, h2, r2⟩ := ky.tup sm
      refine op_catA pins s σ H _ _ v u Q I rx ry ⟨a, b, xs, ys, rfl, rfl, h1, h2, by rw [r1.length, r2.length]; exact line_le hz, ?_, ?_, ?_⟩
      · rintro rfl
        cases r1
        rw [List.nil_append] at g
        exact g.flat sm ky.tupF
      · rintro _ rfl
        cases r2
        rw [List.append_nil] at g
        exact g.flat sm kx.tupF
      · exact fun _ _ p hp => g.newTup sm (r1.append r2) hp
    · cases hf
  · cases hf
theorem o_sub : OpR X (binaryOp .Sub) (rOp2 X.K subD) := by
  intro pins s σ H x y v u Q I rx ry ⟨F, d, e, r, sm, kx, ky, hf, g⟩
  unfold subD at hf
  split at hf
  · rw [kx.int] at rx; rw [ky.int] at ry
    cases hf
    exact op_sub pins s σ H _ _ v u Q I rx ry ⟨_, _, rfl, rfl, g.flat sm (.int _)⟩
  · cases hf
theorem o_mul : OpR X (binaryOp .Mult) (rOp2 X.K mulD) := by
  intro pins s σ H x y v u Q I rx ry ⟨F, d, e, r, sm, kx, ky, hf, g⟩
  unfold mulD at hf
  split at hf
  · split at hf
    · rename_i hz
      rw [kx.int] at rx; rw [ky.int] at ry
      cases hf
      refine op_mul pins s σ H _ _ v u Q I rx ry ⟨_, _, rfl, rfl, ?_, g.flat sm (.int _)⟩
      rcases hz with hz | hz
      · exact .inl (of_decide_eq_true hz)
      · exact .inr (of_decide_eq_true hz)
    · cases hf
  · cases hf
theorem o_div : OpR X (binaryOp .FloorDiv) (rOp2 X.K divD) := by
  intro pins s σ H x y v u Q I rx ry ⟨F, d, e, r, sm, kx, ky, hf, g⟩
  unfold divD at hf
  split at hf
  · split at hf
    · rename_i hz
      rw [kx.int] at rx; rw [ky.int] at ry
      cases hf
      exact op_fdiv pins s σ H _ _ v u Q I rx ry ⟨_, _, rfl, rfl, hz, g.flat sm (.int _)⟩
    · cases hf
  · cases hf
theorem o_mod : OpR X (binaryOp .Mod) (rOp2 X.K modD) := by
  intro pins s σ H x y v u Q I rx ry ⟨F, d, e, r, sm, kx, ky, hf, g⟩
  unfold modD at hf
  split at hf
  · split at hf
    · rename_i hz
      rw [kx.int] at rx; rw [ky.int] at ry
      cases hf
      exact op_mod pins s σ H _ _ v u Q I rx ry ⟨_, _, rfl, rfl, hz, g.flat sm (.int _)⟩
    · cases hf
  · cases hf
theorem o_pow : OpR X (binaryOp .Pow) (rOp2 X.K powD) := by
  intro pins s σ H x y v u Q I rx ry ⟨F, d, e, r, sm, kx, ky, hf, g⟩
  unfold powD at hf
  split at hf
  · split at hf
    · rename_i hz
      rw [kx.int] at rx; rw [ky.int] at ry
      cases hf
      exact op_pow pins s σ H _ _ v u Q I rx ry ⟨_, _, rfl, rfl, hz, g.flat sm (.int _)⟩
    · cases hf
  · cases hf
theorem u_neg : UnR X (unaryOp .USub) (rOp1 X.K negD) := by
  intro pins s σ H x v Q I rx ⟨F, d, r, sm, kx, hf, g⟩
  unfold negD at hf
  split at hf
  · rw [kx.int] at rx
    cases hf
    exact un_neg pins s σ H _ v Q I rx ⟨_, rfl, g.flat sm (.int _)⟩
  · cases hf
end

/-! ### keys -/
def keyOf : PyData → Option Key
  | .int i => some (.inl i)
  | .str x => some (.inr x)
  | _ => none
theorem keyOf_some {d : PyData} {k : Key} (h : keyOf d = some k) : d = keyD k := by
  unfold keyOf at h
  split at h
  · cases h; rfl
  · cases h; rfl
  · cases h
theorem keyOf_keyD (k : Key) : keyOf (keyD k) = some k := by cases k <;> rfl
/-- what stands at a key -/
def findK (k : Key) : List (PyData × PyData) → Option PyData
  | [] => none
  | p :: r => if keyOf p.1 = some k then some p.2 else findK k r
/-- all keys are numbers or texts -/
def flatKs (kvs : List (PyData × PyData)) : Bool := kvs.all fun p => (keyOf p.1).isSome
/-! ### comparisons -/
def cmpI (p : Int → Int → Bool) : PyData → PyData → Option RV
  | .int i, .int j => fzB (p i j)
  | _, _ => none
abbrev ltD := cmpI fun i j => decide (i < j)
abbrev leD := cmpI fun i j => decide (i ≤ j)
abbrev gtD := cmpI fun i j => decide (j < i)
abbrev geD := cmpI fun i j => decide (j ≤ i)
def eqD : PyData → PyData → Option RV
  | .str x, .str y => fzB (decide (x = y))
  | d, e => if SeqAt.shaped d = true ∧ SeqAt.shaped e = true then fzB (PyData.eqv d e) else none
def neD : PyData → PyData → Option RV
  | .str x, .str y => fzB (!decide (x = y))
  | d, e => if SeqAt.shaped d = true ∧ SeqAt.shaped e = true then fzB (!PyData.eqv d e) else none
def isNone : PyData → Bool
  | .none => true
  | _ => false
def isBool (k : Bool) : PyData → Bool
  | .bool j => j == k
  | _ => false
/-- is, beside None or a truth -/
def isD : PyData → PyData → Option RV
  | d, .none => fzB (isNone d)
  | d, .bool k => fzB (isBool k d)
  | _, _ => none
def isNotD : PyData → PyData → Option RV
  | d, .none => fzB (!isNone d)
  | d, .bool k => fzB (!isBool k d)
  | _, _ => none
/-- one sign in a text -/
def inD : PyData → PyData → Option RV
  | .str x, .str y => match x.cps.toList with
    | [c] => fzB (decide (c ∈ y.cps.toList))
    | _ => none
  | d, .list ds => if SeqAt.shaped d = true ∧ SeqAt.shaped (.list ds) = true then fzB (ds.any fun z => PyData.eqv z d) else none
  | d, .dict kvs => (keyOf d).bind fun k => if flatKs kvs = true then fzB (findK k kvs).isSome else none
  | _, _ => none
section
variable {X : Cx}
theorem o_cmpI {op : CmpOp} {p : Int → Int → Bool} (h : OpR X (compareOp op) (rI0 fun i j => .bl (p i j))) : OpR X (compareOp op) (rOp2 X.K (cmpI p)) := by
  intro pins s σ H x y v u Q I rx ry ⟨F, d, e, r, sm, kx, ky, hf, g⟩
  unfold cmpI at hf
  split at hf
  · rw [kx.int] at rx; rw [ky.int] at ry
    cases hf
    exact h pins s σ H _ _ v u Q I rx ry ⟨_, _, rfl, rfl, g.flat sm (.bl _)⟩
  · cases hf
theorem o_lt : OpR X (compareOp .Lt) (rOp2 X.K ltD) := o_cmpI op_lt
theorem o_le : OpR X (compareOp .LtE) (rOp2 X.K leD) := o_cmpI op_le
theorem o_gt : OpR X (compareOp .Gt) (rOp2 X.K gtD) := o_cmpI op_gt
theorem o_ge : OpR X (compareOp .GtE) (rOp2 X.K geD) := o_cmpI op_ge
mutual
theorem dp_of {K : PySem.W.Frag} {H : Hp} : ∀ (d : PyData) (v : V), Rp K H v d → d.canLay0 = true → Dp K H v d
  | .none, _, h, _ => by cases h; exact .non
  | .bool b, _, h, _ => by cases h; exact .bl _
  | .int i, _, h, _ => by cases h; exact .int _
  | .str x, _, h, _ => by cases h; exact .str _
  | .list ds, _, h, c => by
    cases h with
    | lst q r => exact .lst q (dp_ofAll ds _ r (by simpa [PyData.canLay0] using c))
  | .tuple ds, _, h, c => by
    cases h with
    | tup q r => exact .tup (SqT.of q) (dp_ofAll ds _ r (by simpa [PyData.canLay0] using c))
  | .dict kvs, _, h, c => by simp [PyData.canLay0] at c
theorem dp_ofAll {K : PySem.W.Frag} {H : Hp} : ∀ (ds : List PyData) (vs : List V), RpAll K H vs ds → PyData.canLayAll0 ds = true → DpAll K H vs ds
  | [], _, h, _ => by cases h; exact .nil
  | d :: ds, _, h, c => by
    have c' : d.canLay0 = true ∧ PyData.canLayAll0 ds = true := by simpa [PyData.canLayAll0] using c
    cases h with
    | cons a b => exact .cons (dp_of d _ a c'.1) (dp_ofAll ds _ b c'.2)
end
theorem o_eq (hu : X.A.units + 64 < cLine) : OpR X (compareOp .Eq) (rOp2 X.K eqD) := by
  intro pins s σ H x y v u Q I rx ry ⟨F, d, e, r, sm, kx, ky, hf, g⟩
  unfold eqD at hf
  split at hf
  · rename_i a b
    rw [kx.str] at rx; rw [ky.str] at ry
    cases hf
    have q := g.flat sm (.bl _)
    exact op_eq pins s σ H _ _ v u Q I rx ry ⟨rfl, by rw [show decide (V.str a = V.str b) = decide (a = b) from decide_eq_decide.mpr ⟨fun h => V.str.inj h, fun h => congrArg _ h⟩]; exact q⟩
  · split at hf
    case isFalse => cases hf
    rename_i hz
    cases hf
    exact op_eqD hu pins s σ H x y v u Q I rx ry ⟨d, e, dp_of d x (kx.rp sm) (SeqAt.canLay_of_shaped hz.1), dp_of e y (ky.rp sm) (SeqAt.canLay_of_shaped hz.2), hz.1, hz.2, g.flat sm (.bl _)⟩
theorem o_ne (hu : X.A.units + 64 < cLine) : OpR X (compareOp .NotEq) (rOp2 X.K neD) := by
  intro pins s σ H x y v u Q I rx ry ⟨F, d, e, r, sm, kx, ky, hf, g⟩
  unfold neD at hf
  split at hf
  · rename_i a b
    rw [kx.str] at rx; rw [ky.str] at ry
    cases hf
    have q := g.flat sm (.bl _)
    exact op_ne pins s σ H _ _ v u Q I rx ry ⟨rfl, by rw [show decide (V.str a = V.str b) = decide (a = b) from decide_eq_decide.mpr ⟨fun h => V.str.inj h, fun h => congrArg _ h⟩]; exact q⟩
  · split at hf
    case isFalse => cases hf
    rename_i hz
    cases hf
    exact op_neD hu pins s σ H x y v u Q I rx ry ⟨d, e, dp_of d x (kx.rp sm) (SeqAt.canLay_of_shaped hz.1), dp_of e y (ky.rp sm) (SeqAt.canLay_of_shaped hz.2), hz.1, hz.2, g.flat sm (.bl _)⟩
/-- a datum's value is a truth just where the datum is -/
theorem rp_bool {K : PySem.W.Frag} {F H : Hp} {v : V} {d : PyData} (h : Rk K F H v d) (k : Bool) : isBool k d = decide (v = .bl k) := by
  rcases h with h | ⟨a, rfl, q⟩
  · cases h with
    | bl b => cases b <;> cases k <;> rfl
    | _ => rfl
  · cases d with
    | bool b => exact q.elim
    | _ => rfl
theorem rp_none {K : PySem.W.Frag} {F H : Hp} {v : V} {d : PyData} (h : Rk K F H v d) : isNone d = decide (v = .non) := by
  rcases h with h | ⟨a, rfl, q⟩
  · cases h <;> rfl
  · cases d with
    | none => exact q.elim
    | _ => rfl
theorem is_bl {pins : List (Addr × Obj)} {s : Shared} {σ : L2.St} {H : Hp} {x : V} {k : Bool} {v : Value} {Q : VK} (I : Inv X pins σ H s) (rx : RelV x v) (q : Q (.bl (decide (x = .bl k))) H) :
    wpAny (model X.prog X.w) X.A (compareOp .Is v (.bool k)) (EP X pins σ Q) X.xe s := by
  by_cases e : x = .bl k
  · subst e
    cases rx
    exact wpAny_is_self rfl ⟨.bl true, H, I, rfl, by simpa using q⟩
  · have ne : v ≠ .bool k := fun z => e (by
      subst z
      cases x with
      | bl b => cases rx; rfl
      | non => cases rx
      | int i => obtain ⟨t, z⟩ := rx; cases z
      | str i => obtain ⟨t, z⟩ := rx; cases z
      | byt i => obtain ⟨t, z⟩ := rx; cases z
      | flt i => obtain ⟨t, z⟩ := rx; cases z
      | ref i => cases rx
      | ty i => cases rx)
    have en : (decide (x = .bl k)) = false := decide_eq_false e
    rw [en] at q
    cases x with
    | non => cases rx; exact wpAny_is_other rfl ne ⟨.bl false, H, I, rfl, q⟩
    | bl b => cases rx; exact wpAny_is_other rfl ne ⟨.bl false, H, I, rfl, q⟩
    | int i => obtain ⟨t, rfl⟩ := rx; exact wpAny_is_other rfl ne ⟨.bl false, H, I, rfl, q⟩
    | str i => obtain ⟨t, rfl⟩ := rx; exact wpAny_is_other rfl ne ⟨.bl false, H, I, rfl, q⟩
    | byt i => obtain ⟨t, rfl⟩ := rx; exact wpAny_is_other rfl ne ⟨.bl false, H, I, rfl, q⟩
    | flt i => obtain ⟨t, rfl⟩ := rx; exact wpAny_is_other rfl ne ⟨.bl false, H, I, rfl, q⟩
    | ref i => cases rx; exact wpAny_is_other rfl ne ⟨.bl false, H, I, rfl, q⟩
    | ty i => cases rx; exact wpAny_is_other rfl ne ⟨.bl false, H, I, rfl, q⟩
end
end L3

/-! L3H: is, in, subscripts, slices, texts, more built-ins, displays of dicts, by data. -/
namespace L3
open PySem PySem.Spec PyProof.Rows L2

section
variable {X : Cx}
theorem o_is : OpR X (compareOp .Is) (rOp2 X.K isD) := by
  intro pins s σ H x y v u Q I rx ry ⟨F, d, e, r, sm, kx, ky, hf, g⟩
  unfold isD at hf
  split at hf
  · rw [ky.non] at ry
    cases hf
    refine op_isN pins s σ H x .non v u Q I rx ry ⟨rfl, ?_⟩
    rw [← rp_none kx]
    exact g.flat sm (.bl _)
  · rw [ky.bl] at ry
    cases ry
    cases hf
    refine is_bl I rx ?_
    rw [← rp_bool kx]
    exact g.flat sm (.bl _)
  · cases hf
theorem isNot_bl {pins : List (Addr × Obj)} {s : Shared} {σ : L2.St} {H : Hp} {x : V} {k : Bool} {v : Value} {Q : VK} (I : Inv X pins σ H s) (rx : RelV x v) (q : Q (.bl (!decide (x = .bl k))) H) :
    wpAny (model X.prog X.w) X.A (compareOp .IsNot v (.bool k)) (EP X pins σ Q) X.xe s := by
  by_cases e : x = .bl k
  · subst e
    cases rx
    exact wpAny_isNot_self rfl ⟨.bl false, H, I, rfl, by simpa using q⟩
  · have ne : v ≠ .bool k := fun z => e (by
      subst z
      cases x with
      | bl b => cases rx; rfl
      | non => cases rx
      | int i => obtain ⟨t, z⟩ := rx; cases z
      | str i => obtain ⟨t, z⟩ := rx; cases z
      | byt i => obtain ⟨t, z⟩ := rx; cases z
      | flt i => obtain ⟨t, z⟩ := rx; cases z
      | ref i => cases rx
      | ty i => cases rx)
    have en : (decide (x = .bl k)) = false := decide_eq_false e
    rw [en] at q
    cases x with
    | non => cases rx; exact wpAny_isNot_other rfl ne ⟨.bl true, H, I, rfl, q⟩
    | bl b => cases rx; exact wpAny_isNot_other rfl ne ⟨.bl true, H, I, rfl, q⟩
    | int i => obtain ⟨t, rfl⟩ := rx; exact wpAny_isNot_other rfl ne ⟨.bl true, H, I, rfl, q⟩
    | str i => obtain ⟨t, rfl⟩ := rx; exact wpAny_isNot_other rfl ne ⟨.bl true, H, I, rfl, q⟩
    | byt i => obtain ⟨t, rfl⟩ := rx; exact wpAny_isNot_other rfl ne ⟨.bl true, H, I, rfl, q⟩
    | flt i => obtain ⟨t, rfl⟩ := rx; exact wpAny_isNot_other rfl ne ⟨.bl true, H, I, rfl, q⟩
    | ref i => cases rx; exact wpAny_isNot_other rfl ne ⟨.bl true, H, I, rfl, q⟩
    | ty i => cases rx; exact wpAny_isNot_other rfl ne ⟨.bl true, H, I, rfl, q⟩
theorem o_isNot : OpR X (compareOp .IsNot) (rOp2 X.K isNotD) := by
  intro pins s σ H x y v u Q I rx ry ⟨F, d, e, r, sm, kx, ky, hf, g⟩
  unfold isNotD at hf
  split at hf
  · rw [ky.non] at ry
    cases hf
    refine op_notN pins s σ H x .non v u Q I rx ry ⟨rfl, ?_⟩
    rw [← rp_none kx]
    exact g.flat sm (.bl _)
  · rw [ky.bl] at ry
    cases ry
    cases hf
    refine isNot_bl I rx ?_
    rw [← rp_bool kx]
    exact g.flat sm (.bl _)
  · cases hf
/-- a dict by data: its keys are numbers and texts -/
theorem dict_at {K : PySem.W.Frag} {F H : Hp} {v : V} {kvs : List (PyData × PyData)} (h : Rk K F H v (.dict kvs)) (sm : Same F H) (hf : flatKs kvs = true) :
    ∃ (a : Addr) (ks : List (Key × V)) (ds : List PyData), v = .ref a ∧ H a = some (.dK ks) ∧ RpAll K F (ks.map (·.2)) ds ∧ kvs = (ks.map fun p => keyD p.1).zip ds := by
  have no : ∀ {ks : List (List Key × V)} {ds : List PyData}, ks ≠ [] → RpAll K F (ks.map (·.2)) ds → flatKs ((ks.map fun p => PyData.tuple (p.1.map keyD)).zip ds) = true → False := fun {ks ds} n r z => by
    cases ks with
    | nil => exact n rfl
    | cons p ks =>
      cases r with
      | cons a t =>
        simp [flatKs, keyOf] at z
  rcases h with h | ⟨a, rfl, h⟩
  · cases h with
    | dK q r => exact ⟨_, _, _, rfl, sm _ _ q, r, rfl⟩
    | dT q n r => exact (no n r hf).elim
  · rcases h with ⟨ks, ds, q, r, z⟩ | ⟨ks, ds, q, r, n, z⟩
    · exact ⟨a, ks, ds, rfl, q, r, z⟩
    · subst z
      exact (no n r hf).elim
theorem find_val {K : PySem.W.Frag} {F : Hp} (k : Key) : ∀ {ks : List (Key × V)} {ds : List PyData}, RpAll K F (ks.map (·.2)) ds →
    (valV ks k = none ∧ findK k ((ks.map fun p => keyD p.1).zip ds) = none) ∨ ∃ v d, valV ks k = some v ∧ findK k ((ks.map fun p => keyD p.1).zip ds) = some d ∧ Rp K F v d
  | [], _, _ => .inl ⟨rfl, rfl⟩
  | p :: ks, _, h => by
    cases h with
    | @cons _ _ d ds a t =>
      by_cases e : p.1 = k
      · refine .inr ⟨p.2, d, valV_pos e, ?_, a⟩
        show (if keyOf (keyD p.1) = some k then some d else _) = _
        rw [keyOf_keyD, if_pos (by rw [e])]
      · have hn : findK k (((p :: ks).map fun p => keyD p.1).zip (d :: ds)) = findK k ((ks.map fun p => keyD p.1).zip ds) := by
          show (if keyOf (keyD p.1) = some k then some d else _) = _
          rw [keyOf_keyD, if_neg (fun z => e (Option.some.inj z))]
          rfl
        rw [hn, valV_neg e]
        exact find_val k t
theorem key_rel {K : PySem.W.Frag} {F H : Hp} {v : V} {d : PyData} {k : Key} (h : Rk K F H v d) (e : keyOf d = some k) : v = kV k := by
  have := keyOf_some e
  subst this
  cases k with
  | inl i => exact h.int
  | inr x => exact h.str
theorem o_in (hu : X.A.units + 65 < cLine) : OpR X (compareOp .In) (rOp2 X.K inD) := by
  intro pins s σ H x y v u Q I rx ry ⟨F, d, e, r, sm, kx, ky, hf, g⟩
  unfold inD at hf
  split at hf
  · rename_i sx sy
    split at hf
    · rename_i c hc
      have ex : sx = ⟨#[c]⟩ := by
        have h0 : sx.cps = #[c] := by rw [← Array.toArray_toList (xs := sx.cps), hc]
        cases sx
        exact congrArg _ h0
      rw [kx.str, ex] at rx; rw [ky.str] at ry
      cases hf
      exact op_in_sign pins s σ H _ _ v u Q I rx ry ⟨c, sy, rfl, rfl, g.flat sm (.bl _)⟩
    · cases hf
  · rename_i ds
    split at hf
    case isFalse => cases hf
    rename_i hz
    cases hf
    exact op_inD hu pins s σ H x y v u Q I rx ry ⟨d, ds, dp_of d x (kx.rp sm) (SeqAt.canLay_of_shaped hz.1), dp_of _ y (ky.rp sm) (SeqAt.canLay_of_shaped hz.2), hz.1, hz.2, g.flat sm (.bl _)⟩
  · rename_i kvs
    obtain ⟨k, e1, hf⟩ := bind_some hf
    split at hf
    case isFalse => cases hf
    rename_i hz
    cases hf
    obtain ⟨a, ks, ds, rfl, h1, h2, rfl⟩ := dict_at ky sm hz
    cases ry
    have ex := key_rel kx e1
    subst ex
    have e3 : (valV ks k).isSome = (findK k ((ks.map fun p => keyD p.1).zip ds)).isSome := by
      rcases find_val k h2 with ⟨q1, q2⟩ | ⟨v', d', q1, q2, _⟩
      · rw [q1, q2]
        rfl
      · rw [q1, q2]
        rfl
    refine d_in (by omega) I (.k h1) rx fun s' I' => ⟨.bl _, H, I', rfl, ?_⟩
    rw [e3]
    exact g.flat sm (.bl _)
  · cases hf
end

/-! ### subscripts, slices -/
def ixD : PyData → PyData → Option RV
  | .list ds, .int i => (atI ds i).bind fun d => some (.fz d)
  | .tuple ds, .int i => (atI ds i).bind fun d => some (.fz d)
  | .str z, .int i => if z.length ≤ lineN then (atI z.cps.toList i).bind fun c => fzS ⟨#[c]⟩ else none
  | .dict kvs, d => (keyOf d).bind fun k => if flatKs kvs = true then (findK k kvs).bind fun d => some (.fz d) else none
  | _, _ => none
theorem rp_at {K : PySem.W.Frag} {F : Hp} {vs : List V} {ds : List PyData} {i : Int} {d : PyData} (h : RpAll K F vs ds) (e : atI ds i = some d) : ∃ v, atI vs i = some v ∧ Rp K F v d := by
  unfold atI at e ⊢
  obtain ⟨j, e1, e2⟩ := bind_some e
  obtain ⟨v, h1, h2⟩ := h.get e2
  exact ⟨v, by rw [h.length, e1]; exact h1, h2⟩
/-- a part of a list -/
def cutD (ds : List PyData) (lo hi : Option Int) : List PyData := (ds.drop (HT.sIx ds.length 0 lo)).take (HT.sIx ds.length ds.length hi - HT.sIx ds.length 0 lo)
theorem rp_cut {K : PySem.W.Frag} {F : Hp} {vs : List V} {ds : List PyData} (h : RpAll K F vs ds) (lo hi : Option Int) : RpAll K F (cutV vs lo hi) (cutD ds lo hi) := by
  unfold cutV cutD
  rw [h.length]
  exact (h.drop _).take _
def slD : PyData → Option Int → Option Int → Option RV
  | .list ds, lo, hi => some (.own (.list (cutD ds lo hi)))
  | .tuple ds, lo, hi => some (.fz (.tuple (cutD ds lo hi)))
  | .str z, lo, hi => if z.length ≤ lineN then fzS (cutS z lo hi) else none
  | _, _, _ => none
def rSl (K : PySem.W.Frag) (f : PyData → Option Int → Option Int → Option RV) : V → Option Int → Option Int → Hp → VK → Prop := fun x lo hi H Q => ∃ F d r, Same F H ∧ Rk K F H x d ∧ f d lo hi = some r ∧ Gives K F H Q r
abbrev MO := MEnv → Option (MEnv × Option Int)
def oNo : MO := fun env => some (env, none)
def oSm (m : ME) : MO := fun env => (m env).bind fun p => (intOf p.2).bind fun i => some (p.1, some i)
def tO (K : PySem.W.Frag) (m : MO) : TO := fun σ H Q => ∃ F env, Abs K F H σ env ∧ ∃ env' o, m env = some (env', o) ∧ ∀ F' H', Abs K F' H' σ env' → Frm F H σ env F' H' σ env' → Q o H'
def eSl (f : PyData → Option Int → Option Int → Option RV) (m : ME) (l h : MO) : ME := fun env => (m env).bind fun p => (l p.1).bind fun q => (h q.1).bind fun s => (p.2.view s.1).bind fun d => (f d q.2 s.2).bind fun r => some (s.1, r)
section
variable {X : Cx} {e : Expr} {m : ME} {l h : MO} {pos p2 : Pos}
theorem o_ix (hu : X.A.units + 65 < cLine) : IxR X (rOp2 X.K ixD) := by
  intro value slice pins s σ H x y v u Q I rx ry ⟨F, d, e, r, sm, kx, ky, hf, g⟩ hs
  unfold ixD at hf
  split at hf
  · obtain ⟨d, e1, hf⟩ := bind_some hf
    cases hf
    rw [ky.int] at ry
    obtain ⟨a, xs, rfl, h1, r1⟩ := kx.lst sm
    obtain ⟨w, e2, rw'⟩ := rp_at r1 e1
    exact ix_list value slice pins s σ H _ _ v u Q I rx ry ⟨a, xs, _, w, rfl, rfl, h1, e2, g.flat sm rw'⟩ hs
  · obtain ⟨d, e1, hf⟩ := bind_some hf
    cases hf
    rw [ky.int] at ry
    obtain ⟨a, xs, rfl, h1, r1⟩ := kx.tup sm
    obtain ⟨w, e2, rw'⟩ := rp_at r1 e1
    exact ix_tup value slice pins s σ H _ _ v u Q I rx ry ⟨a, xs, _, w, rfl, rfl, h1, e2, g.flat sm rw'⟩ hs
  · split at hf
    · rename_i hz
      obtain ⟨c, e1, hf⟩ := bind_some hf
      cases hf
      rw [ky.int] at ry; rw [kx.str] at rx
      exact ix_str value slice pins s σ H _ _ v u Q I rx ry ⟨_, _, c, rfl, rfl, line_le hz, e1, g.flat sm (.str _)⟩ hs
    · cases hf
  · rename_i kvs
    obtain ⟨k, e1, hf⟩ := bind_some hf
    split at hf
    case isFalse => cases hf
    rename_i hz
    obtain ⟨d', e2, hf⟩ := bind_some hf
    cases hf
    obtain ⟨a, ks, ds, rfl, h1, h2, rfl⟩ := dict_at kx sm hz
    cases rx
    have ex := key_rel ky e1
    subst ex
    rcases find_val k h2 with ⟨q1, q2⟩ | ⟨v', d2, q1, q2, q3⟩
    · rw [q2] at e2
      cases e2
    · rw [q2] at e2
      cases e2
      have g1 : DGet H a (kV k) (some v') := .inl ⟨ks, k, .inl h1, rfl, q1.symm⟩
      exact tail_any (dict_typeIs I g1) PySem.F.slot_dict_getitem.lookup (d_getItem (by omega) I g1 ry fun w' s3 I3 rw' => ⟨v', H, I3, rw', g.flat sm q3⟩) hs
  · cases hf
theorem po_imp {o : Option Expr} {t t' : TO} (hh : PO X o t) (i : ∀ σ H Q, t' σ H Q → t σ H Q) : PO X o t' := ⟨fun pins s σ H Q I q => hh.run pins s σ H Q I (i σ H Q q)⟩
theorem ro_no : PO X none (tO X.K oNo) := po_imp po_none fun σ H Q ⟨F, env, A, env', o, em, k⟩ => by
  cases em
  exact k F H A (Frm.refl _ _ _ _)
theorem ro_sm (he : PE X e (tE X.K m)) : PO X (some e) (tO X.K (oSm m)) := po_imp (po_some he) fun σ H Q ⟨F, env, A, env', o, em, k⟩ => by
  obtain ⟨⟨env1, r⟩, e1, em⟩ := bind_some em
  obtain ⟨i, e2, em⟩ := bind_some em
  cases em
  have e2' : r = .fz (.int i) := intOf_some e2
  subst e2'
  refine ⟨F, env, A, env1, _, e1, fun v F1 H1 A1 f1 o1 n1 => ?_⟩
  cases (show Rp X.K F1 v (.int i) from o1)
  exact ⟨i, rfl, k F1 H1 A1 f1⟩
theorem o_sl : SlR X (rSl X.K slD) := by
  intro pins s σ H x v vl vu lo hi sl Q I rx hs pl pu ⟨F, d, r, sm, kx, hf, g⟩
  unfold slD at hf
  split at hf
  · cases hf
    obtain ⟨a, xs, rfl, h1, r1⟩ := kx.lst sm
    exact sl_list pins s σ H _ v vl vu lo hi sl Q I rx hs pl pu ⟨a, xs, rfl, h1, fun p hp => g.newList sm (rp_cut r1 lo hi) hp⟩
  · cases hf
    obtain ⟨a, xs, rfl, h1, r1⟩ := kx.tup sm
    refine sl_tupA pins s σ H _ v vl vu lo hi sl Q I rx hs pl pu ⟨a, xs, rfl, h1, fun hw => ?_, fun _ p hp => g.newTup sm (rp_cut r1 lo hi) hp⟩
    have ec : ∀ ds : List PyData, ds.length = xs.length → cutD ds lo hi = ds := fun ds hl => by
      unfold cutD
      rw [hl, hw.1, hw.2, List.drop_zero, Nat.sub_zero, ← hl, List.take_length]
    rw [ec _ r1.length.symm] at g
    exact g.flat sm kx.tupF
  · split at hf
    · rename_i hz
      cases hf
      rw [kx.str] at rx
      exact sl_str pins s σ H _ v vl vu lo hi sl Q I rx hs pl pu ⟨_, rfl, line_le hz, g.flat sm (.str _)⟩
    · cases hf
  · cases hf
theorem sl_to {K : PySem.W.Frag} {f : PyData → Option Int → Option Int → Option RV} {σ : L2.St} {H : Hp} {Q : VK} (hh : tE K (eSl f m l h) σ H Q) : tSl (rSl K f) (tE K m) (tO K l) (tO K h) σ H Q := by
  obtain ⟨F, env, A, env', r, em, k⟩ := hh
  obtain ⟨⟨env1, r1⟩, e1, em⟩ := bind_some em
  obtain ⟨⟨env2, o2⟩, e2, em⟩ := bind_some em
  obtain ⟨⟨env3, o3⟩, e3, em⟩ := bind_some em
  obtain ⟨d, e4, em⟩ := bind_some em
  obtain ⟨r', e5, em⟩ := bind_some em
  cases em
  exact ⟨F, env, A, env1, r1, e1, fun v F1 H1 A1 f1 o1 n1 => ⟨F1, env1, A1, env2, o2, e2, fun F2 H2 A2 f2 => ⟨F2, env2, A2, env3, o3, e3, fun F3 H3 A3 f3 =>
    ⟨F3, d, _, A3.same, RV.ok.rk (RV.ok.keep (RV.ok.keep o1 f2) f3) A3 e4, e5, gives_to A3 ((f1.trans f2).trans f3) k⟩⟩⟩⟩
theorem re_sl {lo hi : Option Expr} (he : PE X e (tE X.K m)) (hl : PO X lo (tO X.K l)) (hu : PO X hi (tO X.K h)) : PE X (.Subscript e (.Slice lo hi none p2) pos) (tE X.K (eSl slD m l h)) := pe_imp (pe_slice o_sl he hl hu) fun _ _ _ => sl_to
end

/-! ### built-ins -/
def lenD : List PyData → Option RV
  | [.str x] => if x.length ≤ lineN then fzI x.length else none
  | [.list ds] => fzI ds.length
  | [.tuple ds] => fzI ds.length
  | _ => none
def absD : List PyData → Option RV
  | [.int i] => fzI (if i < 0 then -i else i)
  | _ => none
def maxD : List PyData → Option RV
  | [.int i, .int j] => fzI (if j > i then j else i)
  | _ => none
def minD : List PyData → Option RV
  | [.int i, .int j] => fzI (if j < i then j else i)
  | _ => none
def intD : List PyData → Option RV
  | [.int i] => fzI i
  | [.bool k] => fzI (if k then 1 else 0)
  | _ => none
def strD : List PyData → Option RV
  | [.int i] => if i.natAbs.log2 < 1920 then fzS (toString i) else none
  | _ => none
def listD : List PyData → Option RV
  | [.list ds] => some (.own (.list ds))
  | [.tuple ds] => some (.own (.list ds))
  | [.str x] => if x.length ≤ lineN then some (.own (.list (x.cps.toList.map fun c => .str ⟨#[c]⟩))) else none
  | _ => none
def tupleD : List PyData → Option RV
  | [.list ds] => some (.fz (.tuple ds))
  | [.tuple ds] => some (.fz (.tuple ds))
  | [.str x] => if x.length ≤ lineN then some (.fz (.tuple (x.cps.toList.map fun c => .str ⟨#[c]⟩))) else none
  | _ => none
def boolsOf : List PyData → Option (List Bool)
  | [] => some []
  | .bool b :: ds => (boolsOf ds).bind fun bs => some (b :: bs)
  | _ => none
def allD : List PyData → Option RV
  | [.list ds] => (boolsOf ds).bind fun bs => fzB (bs.all id)
  | _ => none
def anyD : List PyData → Option RV
  | [.list ds] => (boolsOf ds).bind fun bs => fzB (bs.any id)
  | _ => none
theorem rk1 {K : PySem.W.Frag} {F H : Hp} {vs : List V} {d : PyData} (h : RkAll K F H vs [d]) : ∃ v, vs = [v] ∧ Rk K F H v d := by
  cases h with
  | cons a t => cases t; exact ⟨_, rfl, a⟩
theorem rk2 {K : PySem.W.Frag} {F H : Hp} {vs : List V} {d e : PyData} (h : RkAll K F H vs [d, e]) : ∃ v u, vs = [v, u] ∧ Rk K F H v d ∧ Rk K F H u e := by
  cases h with
  | cons a t =>
    obtain ⟨u, rfl, b⟩ := rk1 t
    exact ⟨_, u, rfl, a, b⟩
theorem rp_bools {K : PySem.W.Frag} {F : Hp} : ∀ {ds : List PyData} {vs : List V} {bs : List Bool}, RpAll K F vs ds → boolsOf ds = some bs → vs = bs.map V.bl
  | [], _, _, h, e => by cases h; cases e; rfl
  | .bool b :: ds, _, _, h, e => by
    obtain ⟨bs, e1, e2⟩ := bind_some e
    cases e2
    cases h with
    | cons a t =>
      cases a
      rw [List.map_cons, ← rp_bools t e1]
  | .none :: _, _, _, _, e => by cases e
  | .int _ :: _, _, _, _, e => by cases e
  | .str _ :: _, _, _, _, e => by cases e
  | .list _ :: _, _, _, _, e => by cases e
  | .tuple _ :: _, _, _, _, e => by cases e
  | .dict _ :: _, _, _, _, e => by cases e
/-- the signs of a text as values -/
def signV (x : Str) : List V := x.cps.toList.map fun c => .str ⟨#[c]⟩
def signD (x : Str) : List PyData := x.cps.toList.map fun c => .str ⟨#[c]⟩
theorem rp_signs {K : PySem.W.Frag} {F : Hp} (x : Str) : RpAll K F (signV x) (signD x) := by
  unfold signV signD
  induction x.cps.toList with
  | nil => exact .nil
  | cons c r ih => exact .cons (.str _) ih
theorem signs_vals {x : Str} {acc : Array Value} (h : ItemsOf (SignAt x) acc x.cps.size) : Vals (signV x) acc.toList := by
  obtain ⟨hs, hi⟩ := h
  have gen : ∀ (l : List Nat) (us : List Value), l.length = us.length → (∀ (i c : Nat) (u : Value), l[i]? = some c → us[i]? = some u → RelV (.str ⟨#[c]⟩) u) → Vals (l.map fun c => V.str ⟨#[c]⟩) us := by
    intro l
    induction l with
    | nil => intro us hl _; cases us with | nil => exact .nil | cons _ _ => cases hl
    | cons c r ih =>
      intro us hl hh
      cases us with
      | nil => cases hl
      | cons u us => exact .cons (hh 0 c u rfl rfl) (ih us (by simpa using hl) fun i c u e1 e2 => hh (i + 1) c u (by simpa using e1) (by simpa using e2))
  refine gen _ _ (by simp [hs]) fun i c u e1 e2 => ?_
  have hx : x.cps[i]? = some c := by rw [← Array.getElem?_toList]; exact e1
  have hu : acc[i]? = some u := by rw [← Array.getElem?_toList]; exact e2
  obtain ⟨c', tk, hc', e⟩ := hi i u hu
  rw [hx] at hc'
  cases hc'
  exact ⟨tk, e⟩
end L3

/-! L3I: built-ins as rules, methods of texts, walks over texts, displays of dicts, stores into owned lists. -/
namespace L3
open PySem PySem.Spec PyProof.Rows L2

section
variable {X : Cx}
theorem c_len : CallR X (.builtin "len") (rCall X.K lenD) := by
  intro pins s σ H xs us Q I r ⟨F, ds, z, sm, kx, hf, g⟩
  unfold lenD at hf
  split at hf
  · split at hf
    · rename_i hz
      cases hf
      obtain ⟨v, rfl, k⟩ := rk1 kx
      exact call_len pins s σ H _ us Q I r ⟨v, _, rfl, by rw [k.str]; exact ⟨line_le hz, rfl⟩, g.flat sm (.int _)⟩
    · cases hf
  · cases hf
    obtain ⟨v, rfl, k⟩ := rk1 kx
    obtain ⟨a, ys, rfl, h1, r1⟩ := k.lst sm
    exact call_len pins s σ H _ us Q I r ⟨_, _, rfl, .inl ⟨ys, h1, r1.length.symm⟩, g.flat sm (.int _)⟩
  · cases hf
    obtain ⟨v, rfl, k⟩ := rk1 kx
    obtain ⟨a, ys, rfl, h1, r1⟩ := k.tup sm
    exact call_len pins s σ H _ us Q I r ⟨_, _, rfl, .inr ⟨ys, h1, r1.length.symm⟩, g.flat sm (.int _)⟩
  · cases hf
theorem c_abs : CallR X (.builtin "abs") (rCall X.K absD) := by
  intro pins s σ H xs us Q I r ⟨F, ds, z, sm, kx, hf, g⟩
  unfold absD at hf
  split at hf
  · cases hf
    obtain ⟨v, rfl, k⟩ := rk1 kx
    exact call_abs pins s σ H _ us Q I r ⟨_, by rw [k.int], g.flat sm (.int _)⟩
  · cases hf
theorem c_max (hc : X.calm = true) : CallR X (.builtin "max") (rCall X.K maxD) := by
  intro pins s σ H xs us Q I r ⟨F, ds, z, sm, kx, hf, g⟩
  unfold maxD at hf
  split at hf
  · cases hf
    obtain ⟨v, u, rfl, k1, k2⟩ := rk2 kx
    exact call_max2 hc pins s σ H _ us Q I r ⟨_, _, by rw [k1.int, k2.int], g.flat sm (.int _)⟩
  · cases hf
theorem c_min (hc : X.calm = true) : CallR X (.builtin "min") (rCall X.K minD) := by
  intro pins s σ H xs us Q I r ⟨F, ds, z, sm, kx, hf, g⟩
  unfold minD at hf
  split at hf
  · cases hf
    obtain ⟨v, u, rfl, k1, k2⟩ := rk2 kx
    exact call_min2 hc pins s σ H _ us Q I r ⟨_, _, by rw [k1.int, k2.int], g.flat sm (.int _)⟩
  · cases hf
theorem c_int : CallR X (.type "int") (rCall X.K intD) := by
  intro pins s σ H xs us Q I r ⟨F, ds, z, sm, kx, hf, g⟩
  unfold intD at hf
  split at hf
  · cases hf
    obtain ⟨v, rfl, k⟩ := rk1 kx
    exact call_int1 pins s σ H _ us Q I r (.inl ⟨_, by rw [k.int], g.flat sm (.int _)⟩)
  · cases hf
    obtain ⟨v, rfl, k⟩ := rk1 kx
    exact call_int1 pins s σ H _ us Q I r (.inr ⟨_, by rw [k.bl], g.flat sm (.int _)⟩)
  · cases hf
theorem c_str : CallR X (.type "str") (rCall X.K strD) := by
  intro pins s σ H xs us Q I r ⟨F, ds, z, sm, kx, hf, g⟩
  unfold strD at hf
  split at hf
  · split at hf
    · rename_i hz
      cases hf
      obtain ⟨v, rfl, k⟩ := rk1 kx
      exact call_str_int pins s σ H _ us Q I r ⟨_, by rw [k.int], hz, g.flat sm (.str _)⟩
    · cases hf
  · cases hf
theorem c_list (hc : X.calm = true) : CallR X (.type "list") (rCall X.K listD) := by
  intro pins s σ H xs us Q I r ⟨F, ds, z, sm, kx, hf, g⟩
  unfold listD at hf
  split at hf
  · cases hf
    obtain ⟨v, rfl, k⟩ := rk1 kx
    obtain ⟨a, ys, rfl, h1, r1⟩ := k.lst sm
    exact call_list_of pins s σ H _ us Q I r ⟨a, ys, rfl, .inl h1, fun l hl => g.newList sm r1 hl⟩
  · cases hf
    obtain ⟨v, rfl, k⟩ := rk1 kx
    obtain ⟨a, ys, rfl, h1, r1⟩ := k.tup sm
    exact call_list_of pins s σ H _ us Q I r ⟨a, ys, rfl, .inr h1, fun l hl => g.newList sm r1 hl⟩
  · split at hf
    · rename_i x hz
      cases hf
      obtain ⟨v, rfl, k⟩ := rk1 kx
      rw [k.str] at r
      cases r with
      | cons ru rn =>
        cases rn
        obtain ⟨t, rfl⟩ := ru
        have hn : x.cps.size ≤ sizeLine := line_le hz
        refine call_list_str (I.ok.hd hc) x t (fun h' tk acc' c' hk e hit => ?_) hn
        have vv := signs_vals hit
        have hl : (signV x).length ≤ sizeLine := by simpa [signV] using hn
        refine ⟨.ref _, _, I.laid (t' := tk) hk (Nat.le_refl _) (show ObjOk X.prog X.w _ h' _ (.lst (signV x)) from ⟨hl, acc'.toList, c', vv, by simpa using e⟩), rfl, g.newList sm (rp_signs x) I.fresh⟩
    · cases hf
  · cases hf
theorem c_tuple (hc : X.calm = true) : CallR X (.type "tuple") (rCall X.K tupleD) := by
  intro pins s σ H xs us Q I r ⟨F, ds, z, sm, kx, hf, g⟩
  unfold tupleD at hf
  split at hf
  · cases hf
    obtain ⟨v, rfl, k⟩ := rk1 kx
    obtain ⟨a, ys, rfl, h1, r1⟩ := k.lst sm
    exact call_tuple_of pins s σ H _ us Q I r ⟨a, ys, rfl, .inl ⟨h1, fun l hl => g.newTup sm r1 hl⟩⟩
  · cases hf
    obtain ⟨v, rfl, k⟩ := rk1 kx
    obtain ⟨a, ys, rfl, h1, r1⟩ := k.tup sm
    exact call_tuple_of pins s σ H _ us Q I r ⟨a, ys, rfl, .inr ⟨h1, g.flat sm k.tupF⟩⟩
  · split at hf
    · rename_i x hz
      cases hf
      obtain ⟨v, rfl, k⟩ := rk1 kx
      rw [k.str] at r
      cases r with
      | cons ru rn =>
        cases rn
        obtain ⟨t, rfl⟩ := ru
        have hn : x.cps.size ≤ sizeLine := line_le hz
        refine call_tuple_str (I.ok.hd hc) x t (fun h' tk acc' hk hit => ?_) hn
        have vv := signs_vals hit
        have hl : (signV x).length ≤ sizeLine := by simpa [signV] using hn
        have I1 : Inv X pins σ H { s with heap := h', toks := tk } := I.kept (t' := tk) hk
        have I2 : Inv X pins σ (upd H h'.objs.size (.tup (signV x))) { s with heap := h'.push { cls := .type "tuple", data := .seq acc' }, toks := tk } :=
          I1.laid (t' := tk) (fun b o e => Heap.get?_push_of_some _ e) (Nat.le_refl _) (show ObjOk X.prog X.w _ _ _ (.tup (signV x)) from ⟨hl, acc'.toList, vv, by simpa using IsTup.new h' acc'⟩)
        exact ⟨.ref h'.objs.size, _, I2, rfl, g.newTup sm (rp_signs x) (I1.hok.fresh (Nat.le_refl _))⟩
    · cases hf
  · cases hf
theorem c_all (hc : X.calm = true) : CallR X (.builtin "all") (rCall X.K allD) := by
  intro pins s σ H xs us Q I r ⟨F, ds, z, sm, kx, hf, g⟩
  unfold allD at hf
  split at hf
  · obtain ⟨bs, e1, hf⟩ := bind_some hf
    cases hf
    obtain ⟨v, rfl, k⟩ := rk1 kx
    obtain ⟨a, ys, rfl, h1, r1⟩ := k.lst sm
    rw [rp_bools r1 e1] at h1
    exact cr_all hc pins s σ H _ us Q I r ⟨a, bs, rfl, h1, g.flat sm (.bl _)⟩
  · cases hf
theorem c_any (hc : X.calm = true) : CallR X (.builtin "any") (rCall X.K anyD) := by
  intro pins s σ H xs us Q I r ⟨F, ds, z, sm, kx, hf, g⟩
  unfold anyD at hf
  split at hf
  · obtain ⟨bs, e1, hf⟩ := bind_some hf
    cases hf
    obtain ⟨v, rfl, k⟩ := rk1 kx
    obtain ⟨a, ys, rfl, h1, r1⟩ := k.lst sm
    rw [rp_bools r1 e1] at h1
    exact cr_any hc pins s σ H _ us Q I r ⟨a, bs, rfl, h1, g.flat sm (.bl _)⟩
  · cases hf
end

/-! ### methods of texts -/
def strsOf : List PyData → Option (List Str)
  | [] => some []
  | .str x :: ds => (strsOf ds).bind fun xs => some (x :: xs)
  | _ => none
theorem rp_strs {K : PySem.W.Frag} {F : Hp} : ∀ {ds : List PyData} {vs : List V} {xs : List Str}, RpAll K F vs ds → strsOf ds = some xs → vs = xs.map V.str
  | [], _, _, h, e => by cases h; cases e; rfl
  | .str b :: ds, _, _, h, e => by
    obtain ⟨bs, e1, e2⟩ := bind_some e
    cases e2
    cases h with
    | cons a t =>
      cases a
      rw [List.map_cons, ← rp_strs t e1]
  | .none :: _, _, _, _, e => by cases e
  | .int _ :: _, _, _, _, e => by cases e
  | .bool _ :: _, _, _, _, e => by cases e
  | .list _ :: _, _, _, _, e => by cases e
  | .tuple _ :: _, _, _, _, e => by cases e
  | .dict _ :: _, _, _, _, e => by cases e
def joinD : Str → PyData → Option RV
  | a, .list ds => (strsOf ds).bind fun ys => if (ys.map (·.length)).sum + ys.length * a.length ≤ lineN then fzS (Txt.join a ys) else none
  | a, .tuple ds => (strsOf ds).bind fun ys => if (ys.map (·.length)).sum + ys.length * a.length ≤ lineN then fzS (Txt.join a ys) else none
  | _, _ => none
def upperD : Str → Option RV := fun a => if a.length ≤ 5592405 then fzS (Txt.upper a) else none
def rM0 (K : PySem.W.Frag) (f : Str → Option RV) : V → List V → Hp → VK → Prop := fun x xs H Q => ∃ F z r, x = .str z ∧ xs = [] ∧ Same F H ∧ f z = some r ∧ Gives K F H Q r
def rM1 (K : PySem.W.Frag) (f : Str → PyData → Option RV) : V → List V → Hp → VK → Prop := fun x xs H Q => ∃ F z v d r, x = .str z ∧ xs = [v] ∧ Same F H ∧ Rk K F H v d ∧ f z d = some r ∧ Gives K F H Q r
def strOf : RV → Option Str
  | .fz (.str x) => some x
  | _ => none
theorem strOf_some {r : RV} {x : Str} (h : strOf r = some x) : r = .fz (.str x) := by
  unfold strOf at h
  split at h
  · cases h; rfl
  · cases h
def eM0 (f : Str → Option RV) (mo : ME) : ME := fun env => (mo env).bind fun p => (strOf p.2).bind fun z => (f z).bind fun r => some (p.1, r)
def eM1 (f : Str → PyData → Option RV) (mo m : ME) : ME := fun env => (mo env).bind fun p => (strOf p.2).bind fun z => (m p.1).bind fun q => (q.2.view q.1).bind fun d => (f z d).bind fun r => some (q.1, r)
section
variable {X : Cx} {o e : Expr} {mo m : ME} {id : String} {name : Str} {apos pos : Pos} {f0 : Str → Option RV} {f1 : Str → PyData → Option RV}
theorem re_m0 (slot : Slot "str" name id) (ty : typeOf (.builtin id) = pure (.type "method_descriptor")) (rule : MtR X id (rM0 X.K f0)) (ho : PE X o (tE X.K mo))
    (hbase : attributeBase o name X.env (eval o X.env) = eval o X.env := by rfl) (hline : (apos.endLine == pos.line) = true := by rfl) : PE X (.Call (.Attribute o name apos) [] [] pos) (tE X.K (eM0 f0 mo)) := by
  refine pe_imp (pe_m0 slot ty rule ho hbase hline) fun σ H Q ⟨F, env, A, env', r, em, k⟩ => ?_
  obtain ⟨⟨env1, r1⟩, e1, em⟩ := bind_some em
  obtain ⟨z, e2, em⟩ := bind_some em
  obtain ⟨r', e3, em⟩ := bind_some em
  cases em
  have e2' : r1 = .fz (.str z) := strOf_some e2
  subst e2'
  refine ⟨F, env, A, env1, _, e1, fun v F1 H1 A1 f1 o1 n1 => ?_⟩
  cases (show Rp X.K F1 v (.str z) from o1)
  exact ⟨⟨z, rfl⟩, F1, z, _, rfl, rfl, A1.same, e3, gives_to A1 f1 k⟩
theorem re_m1 (slot : Slot "str" name id) (ty : typeOf (.builtin id) = pure (.type "method_descriptor")) (rule : MtR X id (rM1 X.K f1)) (ho : PE X o (tE X.K mo)) (he : PE X e (tE X.K m))
    (hs : starEach [e] X.env = [(false, eval e X.env)] := by rfl) (hbase : attributeBase o name X.env (eval o X.env) = eval o X.env := by rfl) (hline : (apos.endLine == pos.line) = true := by rfl) : PE X (.Call (.Attribute o name apos) [e] [] pos) (tE X.K (eM1 f1 mo m)) := by
  refine pe_imp (pe_m1 slot ty rule ho he hs hbase hline) fun σ H Q ⟨F, env, A, env', r, em, k⟩ => ?_
  obtain ⟨⟨env1, r1⟩, e1, em⟩ := bind_some em
  obtain ⟨z, e2, em⟩ := bind_some em
  obtain ⟨⟨env2, r2⟩, e3, em⟩ := bind_some em
  obtain ⟨d, e4, em⟩ := bind_some em
  obtain ⟨r', e5, em⟩ := bind_some em
  cases em
  have e2' : r1 = .fz (.str z) := strOf_some e2
  subst e2'
  refine ⟨F, env, A, env1, _, e1, fun v F1 H1 A1 f1 o1 n1 => ?_⟩
  cases (show Rp X.K F1 v (.str z) from o1)
  exact ⟨⟨z, rfl⟩, F1, env1, A1, env2, r2, e3, fun u F2 H2 A2 f2 o2 n2 => ⟨F2, z, u, d, _, rfl, rfl, A2.same, RV.ok.rk o2 A2 e4, e5, gives_to A2 (f1.trans f2) k⟩⟩
theorem m_upper : MtR X "str.upper" (rM0 X.K upperD) := by
  intro pins s σ H x xs v us Q I rx rs ⟨F, z, r, ex, exs, sm, hf, g⟩
  subst ex exs
  unfold upperD at hf
  split at hf
  · rename_i hz
    cases hf
    exact mt_upper pins s σ H _ _ v us Q I rx rs ⟨z, rfl, rfl, hz, g.flat sm (.str _)⟩
  · cases hf
theorem m_join : MtR X "str.join" (rM1 X.K joinD) := by
  intro pins s σ H x xs v us Q I rx rs ⟨F, z, u, d, r, ex, exs, sm, kd, hf, g⟩
  subst ex exs
  unfold joinD at hf
  split at hf
  · obtain ⟨ys, e1, hf⟩ := bind_some hf
    split at hf
    · rename_i hz
      cases hf
      obtain ⟨a, zs, rfl, h1, r1⟩ := kd.lst sm
      rw [rp_strs r1 e1] at h1
      exact mt_join pins s σ H _ _ v us Q I rx rs ⟨_, a, ys, rfl, rfl, .inl h1, hz, g.flat sm (.str _)⟩
    · cases hf
  · obtain ⟨ys, e1, hf⟩ := bind_some hf
    split at hf
    · rename_i hz
      cases hf
      obtain ⟨a, zs, rfl, h1, r1⟩ := kd.tup sm
      rw [rp_strs r1 e1] at h1
      exact mt_join pins s σ H _ _ v us Q I rx rs ⟨_, a, ys, rfl, rfl, .inr h1, hz, g.flat sm (.str _)⟩
    · cases hf
  · cases hf
end

/-! ### text * number -/
def repS (x : Str) (n : Nat) : Str := ⟨(List.replicate n x.cps).foldl (· ++ ·) #[]⟩
def mulSD : PyData → PyData → Option RV
  | .str x, .int n => if n = 1 then fzS x else if 2 ≤ n ∧ n ≤ 1000 ∧ 1 ≤ x.length ∧ x.length ≤ 1000 then fzS (repS x n.toNat) else none
  | d, e => mulD d e
theorem rep_size (a : Array Nat) : ∀ (n : Nat) (b : Array Nat), ((List.replicate n a).foldl (· ++ ·) b).size = b.size + n * a.size
  | 0, b => by simp
  | n + 1, b => by
    rw [List.replicate_succ, List.foldl_cons, rep_size a n, Array.size_append, Nat.succ_mul]
    omega
theorem repS_len (x : Str) (n : Nat) : (repS x n).length = n * x.length := by
  show ((List.replicate n x.cps).foldl (· ++ ·) #[]).size = _
  rw [rep_size]
  simp [Str.length]
theorem o_mulS {X : Cx} : OpR X (binaryOp .Mult) (rOp2 X.K mulSD) := by
  intro pins s σ H x y v u Q I rx ry ⟨F, d, e, r, sm, kx, ky, hf, g⟩
  unfold mulSD at hf
  split at hf
  · rename_i z n
    split at hf
    · rename_i h1
      subst h1
      rw [kx.str] at rx; rw [ky.int] at ry
      obtain ⟨t, rfl⟩ := rx
      obtain ⟨t', rfl⟩ := ry
      cases hf
      refine PySem.P.mul_str (by decide) (fun _ q => ?_) (fun _ q => ?_) ?_
      · simp at q
      · simp at q
      · rw [if_neg (by decide), if_pos (by simp)]
        exact ⟨.str _, H, I, ⟨_, rfl⟩, g.flat sm (.str _)⟩
    split at hf
    · rename_i hz
      obtain ⟨h1, h2, h3, h4⟩ := hz
      rw [kx.str] at rx; rw [ky.int] at ry
      obtain ⟨t, rfl⟩ := rx
      obtain ⟨t', rfl⟩ := ry
      cases hf
      have hb : (n == 1 || z.length == 0) = false := by
        have e1 : (n == 1) = false := by rw [beq_eq_false_iff_ne]; omega
        have e2 : (z.length == 0) = false := by rw [beq_eq_false_iff_ne]; omega
        rw [e1, e2]
        rfl
      have hlen : z.length * n.toNat ≤ 1000000 := Nat.le_trans (Nat.mul_le_mul h4 (by omega : n.toNat ≤ 1000)) (by decide)
      refine PySem.P.mul_str ?_ (fun _ _ => ?_) (fun _ _ => ?_) ?_
      · rw [decide_eq_false (by omega), decide_eq_false (by omega)]
        rfl
      · intro q
        have q1 : (1000 : Int) ≤ (2 ^ 63 - 1) / n := by
          rw [Int.le_ediv_iff_mul_le (by omega)]
          omega
        omega
      · exact decide_eq_false (by rw [sizeLine_eq]; omega)
      · rw [if_neg (by omega), if_neg (by rw [hb]; exact Bool.false_ne_true)]
        exact ⟨by show (repS z n.toNat).length ≤ sizeLine; rw [repS_len, sizeLine_eq, Nat.mul_comm]; omega, ⟨.str _, H, I.tok _, ⟨_, rfl⟩, g.flat sm (.str _)⟩⟩
    · cases hf
  · exact o_mul pins s σ H x y v u Q I rx ry ⟨F, d, e, r, sm, kx, ky, hf, g⟩
end L3

/-! L3J: walks over texts, displays of dicts, stores into owned lists. -/
namespace L3
open PySem PySem.Spec PyProof.Rows L2

/-! ### any walked thing: a list, a tuple, a text -/
def iAny (m : ME) : MI := fun env => (m env).bind fun p => (p.2.fix p.1).bind fun q => match q.2 with
  | .list ds => some (q.1, ds)
  | .tuple ds => some (q.1, ds)
  | .str x => some (q.1, signD x)
  | _ => none
theorem it_text {K : PySem.W.Frag} {F : Hp} (x : Str) : ItOk K (Its x) F (signD x) where
  stop := fun H s => by simp [Its, signD]
  go := fun i H s hi => by simpa [Its, signD] using hi
  yld := fun i H G v H' d s s' y e => by
    obtain ⟨rfl, c, hc, rfl⟩ := y
    have e' : (x.cps.toList[i]?).map (fun c => PyData.str ⟨#[c]⟩) = some d := by
      unfold signD at e
      rw [List.getElem?_map] at e
      exact e
    rw [Array.getElem?_toList, hc] at e'
    cases e'
    exact ⟨G, Same.refl _, Same.refl _, s', fun _ _ h => .inl h, .str _⟩
section
variable {X : Cx} {tg : Expr} {m : ME}
theorem pi_three {l : Expr} {tl : TE} (hl : PE X l tl) : PI X tg l (fun σ H R => tl σ H fun x H1 => (∃ a, x = .ref a ∧ (∃ xs, SqL X.K H1 a xs) ∧ R (Itl X.K a) H1) ∨ (∃ a, x = .ref a ∧ (∃ xs, SqT X.K H1 a xs) ∧ R (Itt X.K a) H1) ∨ ∃ z, x = .str z ∧ R (Its z) H1) := by
  refine ⟨fun pins s σ H R I h => ?_⟩
  refine thn (hl.run pins s σ H _ I h) fun v s1 ⟨x, H1, I1, r1, q1⟩ => ?_
  rcases q1 with ⟨a, e, ⟨xs, hq⟩, q⟩ | ⟨a, e, ⟨xs, hq⟩, q⟩ | ⟨z, e, q⟩
  · subst e
    cases r1
    obtain ⟨its, rv, p, hz⟩ := I1.list hq
    refine wpAny_pyIter_list p.isList ?_
    refine ⟨s1.heap.objs.size, [s1.heap.objs.size], _, _, H1, rfl, I1.kept (t' := s1.toks) fun b o e => Heap.get?_push_of_some _ e, turn_list a _, ⟨_, Heap.get?_push_size _ rfl, rfl, rfl⟩, fun b hb => ?_, q⟩
    have eb : b = s1.heap.objs.size := by simpa using hb
    subst eb
    exact I1.fpOk (Nat.le_refl _) (I1.hok.fresh (Nat.le_refl _))
  · subst e
    cases r1
    obtain ⟨its, rv, p, hz⟩ := I1.tuple hq
    refine wpAny_pyIter_tuple (show s1.heap.IsTuple a its.toArray from p) ?_
    refine ⟨s1.heap.objs.size, [s1.heap.objs.size], _, _, H1, rfl, I1.kept (t' := s1.toks) fun b o e => Heap.get?_push_of_some _ e, turn_tuple a _, ⟨_, Heap.get?_push_size _ rfl, rfl, rfl⟩, fun b hb => ?_, q⟩
    have eb : b = s1.heap.objs.size := by simpa using hb
    subst eb
    exact I1.fpOk (Nat.le_refl _) (I1.hok.fresh (Nat.le_refl _))
  · subst e
    obtain ⟨t, rfl⟩ := r1
    cases ha : z.cps.all (· < 128)
    · exact wpAny_pyIter_wide ha (pi_one (tk := s1.toks) I1 _ (turn_str _ z t "str_iterator" (.inr rfl)) ⟨_, Heap.get?_push_size _ rfl, rfl, rfl⟩ q)
    · exact wpAny_pyIter_ascii ha (pi_one (tk := s1.toks) I1 _ (turn_str _ z t "str_ascii_iterator" (.inl rfl)) ⟨_, Heap.get?_push_size _ rfl, rfl, rfl⟩ q)
theorem ri_any {l : Expr} (hl : PE X l (tE X.K m)) : PI X tg l (tIt X.K (iAny m)) := by
  refine pi_imp (pi_three hl) fun σ H R ⟨F, env, A, env', ds, em, k⟩ => ?_
  obtain ⟨⟨env1, r⟩, e1, em⟩ := bind_some em
  obtain ⟨⟨env2, d⟩, e2, em⟩ := bind_some em
  refine ⟨F, env, A, env1, r, e1, fun v F1 H1 A1 f1 o1 n1 => ?_⟩
  obtain ⟨F2, A2, f2, r2, s2⟩ := fix_one A1 f1 o1 n1 e2
  split at em
  · rename_i ds' e3
    cases em
    have e3' : d = .list ds := e3
    subst e3'
    cases r2 with
    | lst q r => exact .inl ⟨_, rfl, ⟨_, sql_mono A2.same q⟩, k _ F2 H1 A2 f2 (it_list q r)⟩
  · rename_i ds' e3
    cases em
    have e3' : d = .tuple ds := e3
    subst e3'
    cases r2 with
    | tup q r => exact .inr (.inl ⟨_, rfl, ⟨_, SqT.of (A2.same _ _ q)⟩, k _ F2 H1 A2 f2 (it_tup (SqT.of q) r)⟩)
  · rename_i x e3
    cases em
    have e3' : d = .str x := e3
    subst e3'
    cases r2
    exact .inr (.inr ⟨x, rfl, k _ F2 H1 A2 f2 (it_text x)⟩)
  · cases em
end

/-! ### displays of dicts: keys are numbers and texts, no two alike -/
def aPairs : List (ME × ME) → MA
  | [] => aNil
  | (a, b) :: ps => aCons a (aCons b (aPairs ps))
/-- keys and values apart -/
def splitKV : List PyData → Option (List Key × List PyData)
  | [] => some ([], [])
  | [_] => none
  | a :: b :: r => (keyOf a).bind fun k => (splitKV r).bind fun q => some (k :: q.1, b :: q.2)
def eDict (ps : List (ME × ME)) : ME := fun env => (aPairs ps env).bind fun p => (fixAll p.1 p.2).bind fun q => (splitKV q.2).bind fun kv => if kv.1.Nodup ∧ kv.1.length ≤ 15 then some (q.1, .own (.dict ((kv.1.map keyD).zip kv.2))) else none
/-- values off the values of some pairs -/
def flatP : List (V × V) → List V
  | [] => []
  | (a, b) :: r => a :: b :: flatP r
theorem pairs_to {K : PySem.W.Frag} : ∀ {ps : List (ME × ME)} {σ : L2.St} {H : Hp} {Q : List (V × V) → Hp → Prop}, tAs K (aPairs ps) σ H (fun vs H1 => ∀ pv, flatP pv = vs → Q pv H1) → tPairs (ps.map fun p => (tE K p.1, tE K p.2)) σ H Q
  | [], σ, H, Q, ⟨F, env, A, env', rs, em, k⟩ => by
    cases em
    exact k [] F H A (Frm.refl _ _ _ _) trivial (fun v hv => by cases hv) [] rfl
  | (a, b) :: ps, σ, H, Q, ⟨F, env, A, env', rs, em, k⟩ => by
    obtain ⟨⟨env1, r1⟩, e1, em⟩ := bind_some em
    obtain ⟨⟨env3, rs3⟩, e2, em⟩ := bind_some em
    cases em
    obtain ⟨⟨env2, r2⟩, e3, em⟩ := bind_some e2
    obtain ⟨⟨env4, rs4⟩, e4, em⟩ := bind_some em
    cases em
    refine ⟨F, env, A, env1, r1, e1, fun v F1 H1 A1 f1 o1 n1 => ⟨F1, env1, A1, env2, r2, e3, fun u F2 H2 A2 f2 o2 n2 => pairs_to ⟨F2, env2, A2, env4, rs4, e4, fun vs F3 H3 A3 f3 o3 n3 pv epv => ?_⟩⟩⟩
    have sep : ∀ {x : V} {r : RV} {Fx Hx Fy Hy : Hp} {ex ey : MEnv} {ys : List V} {rs : List RV}, r.ok K Fx Hx σ ex x → rvsNew Hx ys rs → (∃ d, r = .own d) → x ∉ ownVs ys rs := fun {x r Fx Hx Fy Hy ex ey ys rs} ok nw ⟨d, ed⟩ hm => by
      subst ed
      obtain ⟨c, ec, hn⟩ := nw x hm
      obtain ⟨c', ec', _, oc, _⟩ := ok
      rw [ec] at ec'
      cases ec'
      obtain ⟨o, ho⟩ := oc.there
      rw [hn] at ho; cases ho
    have addNew : ∀ {x : V} {r : RV} {Hx : Hp} {ys : List V} {rs : List RV}, r.isNew Hx x → rvsNew Hx ys rs → rvsNew Hx (x :: ys) (r :: rs) := fun {x r Hx ys rs} h1 h2 w hw => by
      cases r with
      | own d =>
        rcases List.mem_cons.mp hw with rfl | hw
        · exact h1
        · exact h2 w hw
      | fz d => exact h2 w hw
      | plc i => exact h2 w hw
    have n3' := n3.back f2
    have n23 : rvsNew H1 (u :: vs) (r2 :: rs4) := addNew n2 n3'
    refine k (v :: u :: vs) F3 H3 A3 ((f1.trans f2).trans f3) ⟨RV.ok.keep (RV.ok.keep o1 f2) f3, ⟨RV.ok.keep o2 f3, o3, fun h => sep (Fy := F3) (Hy := H3) (ey := env4) o2 n3 h⟩, fun h => sep (Fy := F3) (Hy := H3) (ey := env4) o1 n23 h⟩ (addNew n1 (n23.back f1)) ((v, u) :: pv) (by rw [← epv]; rfl)
theorem split_pairs {K : PySem.W.Frag} {F : Hp} : ∀ {pv : List (V × V)} {ds : List PyData} {ks : List Key} {vs : List PyData}, RpAll K F (flatP pv) ds → splitKV ds = some (ks, vs) → ∃ kvs : List (Key × V), pv = kvs.map (fun kv => (kV kv.1, kv.2)) ∧ kvs.map (·.1) = ks ∧ RpAll K F (kvs.map (·.2)) vs
  | [], _, _, _, h, e => by
    cases h
    cases e
    exact ⟨[], rfl, rfl, .nil⟩
  | (a, b) :: pv, _, _, _, h, e => by
    cases h with
    | cons ha h =>
      cases h with
      | cons hb h =>
        obtain ⟨k, e1, e⟩ := bind_some e
        obtain ⟨⟨ks', vs'⟩, e2, e⟩ := bind_some e
        cases e
        obtain ⟨kvs, q1, q2, q3⟩ := split_pairs h e2
        have ea : a = kV k := by
          have := keyOf_some e1
          subst this
          cases k <;> (cases ha; rfl)
        exact ⟨(k, b) :: kvs, by rw [List.map_cons, ← q1, ea], by rw [List.map_cons, q2], .cons hb q3⟩
theorem merge_fresh : ∀ (more acc : List (Key × V)), ((acc ++ more).map (·.1)).Nodup → mergeK acc more = acc ++ more
  | [], acc, _ => by simp [mergeK]
  | p :: more, acc, h => by
    have hn : p.1 ∉ acc.map (·.1) := fun hm => by
      rw [List.map_append, List.nodup_append] at h
      exact h.2.2 _ hm p.1 (by simp) rfl
    have ep : putK acc p.1 p.2 = acc ++ [p] := by
      unfold putK
      refine if_neg fun z => hn ?_
      rw [List.any_eq_true] at z
      obtain ⟨q, h1, h2⟩ := z
      rw [← of_decide_eq_true h2]
      exact List.mem_map_of_mem h1
    show mergeK (putK acc p.1 p.2) more = _
    rw [ep, merge_fresh more (acc ++ [p]) (by simpa using h)]
    simp
section
variable {X : Cx} {pos : Pos} {keys : List (Option Expr)} {values : List Expr} {ps : List (ME × ME)}
theorem re_dict0 : PE X (.Dict [] [] pos) (tE X.K (eDict [])) := by
  refine pe_imp pe_dnewK fun σ H Q ⟨F, env, A, env', r, em, k⟩ => ?_
  cases em
  intro p hp
  have sH : Same H (upd H p (.dK [])) := fun b o q => by rw [upd_ne (ne_of_none q hp)]; exact q
  obtain ⟨A2, f2⟩ := grow A (Same.refl F) sH (A.same.trans sH) fun _ _ h => .inl h
  refine k (.ref p) F _ A2 f2 ⟨p, rfl, A.same.free hp, .inl ⟨[], [], upd_same, .nil, rfl⟩, fun z => ?_⟩ ⟨p, rfl, hp⟩
  obtain ⟨_, o, ho⟩ := A.ownsF z
  rw [hp] at ho; cases ho
theorem disp_to {K : PySem.W.Frag} {σ : L2.St} {H : Hp} {Q : VK} (h : tE K (eDict ps) σ H Q) : tDisp (ps.map fun p => (tE K p.1, tE K p.2)) σ H Q := by
  obtain ⟨F, env, A, env', r, em, k⟩ := h
  obtain ⟨⟨env1, rs⟩, e1, em⟩ := bind_some em
  obtain ⟨⟨env2, ds⟩, e2, em⟩ := bind_some em
  obtain ⟨⟨ks, vs⟩, e3, em⟩ := bind_some em
  split at em
  case isFalse => cases em
  rename_i hc
  cases em
  intro p hp
  have sH : Same H (upd H p (.dK [])) := fun b o q => by rw [upd_ne (ne_of_none q hp)]; exact q
  obtain ⟨A0, f0⟩ := grow A (Same.refl F) sH (A.same.trans sH) fun _ _ h => .inl h
  have np : ¬ Owns σ env p := fun z => by
    obtain ⟨_, o, ho⟩ := A.ownsF z
    rw [hp] at ho; cases ho
  refine pairs_to ⟨F, env, A0, env1, rs, e1, fun us F1 H1 A1 f1 o1 n1 pv epv => ?_⟩
  subst epv
  obtain ⟨F2, A2, f2, r2, s2⟩ := fix_all A1 f1 o1 n1 e2
  obtain ⟨kvs, q1, q2, q3⟩ := split_pairs r2 e3
  have h1p : H1 p = some (.dK []) := f1.keep p _ upd_same np
  have f2p : F2 p = none := by
    cases q : F2 p with
    | none => rfl
    | some u =>
      rcases f2.new p u q with z | z | z
      · rw [A.same.free hp] at z; cases z
      · rw [upd_same] at z; cases z
      · exact (np z).elim
  have n2 : ¬ Owns σ env2 p := fun z => by
    rcases f2.own p z with z | z
    · exact np z
    · rw [upd_same] at z; cases z
  have q2' : kvs.map (·.1) = ks := q2
  have hl : kvs.length ≤ 15 := by
    have := hc.2
    rw [← q2', List.length_map] at this
    exact this
  have em2 : mergeK [] kvs = kvs := by
    have := merge_fresh kvs [] (by rw [List.nil_append, q2']; exact hc.1)
    rw [List.nil_append] at this
    exact this
  refine ⟨h1p, kvs, q1, hl, ?_⟩
  rw [em2]
  refine k (.ref p) F2 _ (abs_other A2 f2p n2) (frm_other (f0.trans f2) hp) ⟨p, rfl, f2p, .inl ⟨kvs, vs, upd_same, q3, ?_⟩, n2⟩ ⟨p, rfl, hp⟩
  show (ks.map keyD).zip vs = _
  rw [← q2', List.map_map]
  rfl
theorem re_dict (h : PPs X pos keys values (ps.map fun p => (tE X.K p.1, tE X.K p.2))) (hall : keys.all (·.isSome) = true := by rfl) (hl : keys.length = values.length := by rfl) (h0 : keys ≠ [] := by intro z; cases z) (h15 : keys.length ≤ 15 := by decide) :
    PE X (.Dict keys values pos) (tE X.K (eDict ps)) := pe_imp (pe_disp h hall hl h0 h15) fun _ _ _ => disp_to
end

/-! ### stores into what is owned -/
section
variable {K : PySem.W.Frag} {F H : Hp} {σ : L2.St} {env : MEnv}
theorem SV.put_own {x : SV} {d d' : PyData} (h : x.isOwn = some d) : (x.put d').isOwn = some d' ∧ (x.put d').lock = x.lock := by
  cases x with
  | own _ => exact ⟨rfl, rfl⟩
  | ref _ => exact ⟨rfl, rfl⟩
  | unb => cases h
  | fz _ => cases h
  | rfz _ => cases h
theorem put_own (A : Abs K F H σ env) {i : Nat} {x : SV} {d d' : PyData} {a : Addr} {o : HO} (e : env[i]? = some x) (ho : x.isOwn = some d) (ha : σ[i]? = some (some (.ref a))) (c : OwnC K F (upd H a o) a d') :
    Abs K F (upd H a o) σ (env.set i (x.put d')) ∧ Frm F H σ env F (upd H a o) σ (env.set i (x.put d')) := by
  have oa : OwnsAt σ env i a := ⟨x, d, e, ho, ha⟩
  obtain ⟨fa, u, hu⟩ := A.ownsF ⟨i, oa⟩
  obtain ⟨po, pl⟩ := SV.put_own (d' := d') ho
  have hl : i < env.length := (List.getElem?_eq_some_iff.mp e).1
  have own1 : ∀ j b, OwnsAt σ (env.set i (x.put d')) j b → OwnsAt σ env j b := fun j b ⟨y, dy, h1, h2, h3⟩ => by
    rcases getSet h1 with ⟨rfl, rfl, _⟩ | ⟨hj, h1⟩
    · exact ⟨x, d, e, ho, h3⟩
    · exact ⟨y, dy, h1, h2, h3⟩
  refine ⟨⟨fun b w q => by rw [upd_ne (ne_of_none q fa)]; exact A.same b w q, by rw [List.length_set]; exact A.len, fun j y ey => ?_, fun j l b h1 h2 => A.inj j l b (own1 j b h1) (own1 l b h2)⟩,
    ⟨Same.refl _, fun b w h n => by rw [upd_ne (fun z => n ⟨i, by rw [z]; exact oa⟩ : b ≠ a)]; exact h, fun b w h => ?_, fun b w h => .inl h, fun b ⟨j, h⟩ => .inl ⟨j, own1 j b h⟩, fun b ⟨j, dj, h1, h3⟩ => ?_, fun j y h1 l => ⟨rfl, ?_⟩, by rw [List.length_set]⟩⟩
  · rcases getSet ey with ⟨rfl, rfl, _⟩ | ⟨hj, ey⟩
    · cases x with
      | own _ => exact ⟨a, ha, fa, c⟩
      | ref _ => exact ⟨a, ha, fa, c⟩
      | unb => cases ho
      | fz _ => cases ho
      | rfz _ => cases ho
    · have h := A.slot j y ey
      have own : ∀ dy, y.isOwn = some dy → (∃ b, σ[j]? = some (some (.ref b)) ∧ F b = none ∧ OwnC K F H b dy) → ∃ b, σ[j]? = some (some (.ref b)) ∧ F b = none ∧ OwnC K F (upd H a o) b dy := fun dy oy ⟨b, q, fb, cb⟩ => by
        have hb : b ≠ a := fun z => by subst z; exact hj (A.inj j i b ⟨y, dy, ey, oy, q⟩ oa)
        exact ⟨b, q, fb, cb.keep (Same.refl _) fun w hw => by rw [upd_ne hb]; exact hw⟩
      cases y with
      | unb => trivial
      | fz _ => exact h
      | rfz _ => exact h
      | own dy => exact own dy rfl h
      | ref dy => exact own dy rfl h
  · by_cases hb : b = a
    · subst hb; exact ⟨o, upd_same⟩
    · exact ⟨w, by rw [upd_ne hb]; exact h⟩
  · rcases getSet h1 with ⟨rfl, q, _⟩ | ⟨hj, h1⟩
    · cases x with
      | own d0 => exact .inl ⟨j, d0, e, h3⟩
      | ref _ => cases q
      | unb => cases ho
      | fz _ => cases ho
      | rfz _ => cases ho
    · exact .inl ⟨j, dj, h1, h3⟩
  · by_cases hj : j = i
    · subst hj
      rw [e] at h1
      cases h1
      exact ⟨x.put d', List.getElem?_set_self hl, by rw [pl]; exact l⟩
    · exact ⟨y, by rw [List.getElem?_set_ne (Ne.symm hj)]; exact h1, l⟩
end
/-- an owned list in a slot -/
def ownL (env : MEnv) (i : Nat) : Option (SV × List PyData) := (env[i]?).bind fun x => match x with
  | .own (.list ds) => some (x, ds)
  | .ref (.list ds) => some (x, ds)
  | _ => none
theorem ownL_some {env : MEnv} {i : Nat} {x : SV} {ds : List PyData} (h : ownL env i = some (x, ds)) : env[i]? = some x ∧ x.isOwn = some (.list ds) := by
  obtain ⟨y, e, h⟩ := bind_some h
  split at h
  · cases h; exact ⟨e, rfl⟩
  · cases h; exact ⟨e, rfl⟩
  · cases h
/-- o[i] = e, the slot o holds an owned list -/
def sSetIx (o : Nat) (mi me : ME) : MS := fun env => (me env).bind fun p => (ownL p.1 o).bind fun _ => (mi p.1).bind fun q => (intOf q.2).bind fun i => (p.2.fix q.1).bind fun s => (ownL s.1 o).bind fun w => (ixN w.2.length i).bind fun j =>
  some (.nx (s.1.set o (w.1.put (.list (w.2.set j s.2)))))
/-- o.append(e) -/
def eApp (o : Nat) (me : ME) : ME := fun env => (ownL env o).bind fun _ => (me env).bind fun p => (p.2.fix p.1).bind fun s => (ownL s.1 o).bind fun w => if w.2.length < lineN then some (s.1.set o (w.1.put (.list (w.2 ++ [s.2]))), .fz .none) else none
section
variable {X : Cx} {oe ie e : Expr} {o : Nat} {mi me : ME} {pos spos apos cpos : Pos}
theorem setIx_to {K : PySem.W.Frag} {D : Ends} {σ : L2.St} {H : Hp} (h : tS K (sSetIx o mi me) D σ H) : tAsg (tE K me) (gSub (tVar o) (tE K mi) rSetL) D σ H := by
  obtain ⟨F, env, A, out, em, k⟩ := h
  obtain ⟨⟨env1, r1⟩, e1, em⟩ := bind_some em
  obtain ⟨⟨x0, ds0⟩, e0, em⟩ := bind_some em
  obtain ⟨⟨env2, r2⟩, e2, em⟩ := bind_some em
  obtain ⟨i, e3, em⟩ := bind_some em
  obtain ⟨⟨env3, d⟩, e4, em⟩ := bind_some em
  obtain ⟨⟨x, ds⟩, e5, em⟩ := bind_some em
  obtain ⟨j, e6, em⟩ := bind_some em
  cases em
  refine ⟨F, env, A, env1, r1, e1, fun v F1 H1 A1 f1 o1 n1 => ?_⟩
  obtain ⟨g1, g2⟩ := ownL_some e0
  obtain ⟨a, ha, _, _⟩ := A1.own (a := 0) g1 g2
  refine ⟨.ref a, ha, F1, env1, A1, env2, r2, e2, fun u F2 H2 A2 f2 o2 n2 => ?_⟩
  have e3' : r2 = .fz (.int i) := intOf_some e3
  subst e3'
  cases (show Rp K F2 u (.int i) from o2)
  obtain ⟨F3, A3, f3, rd, s3⟩ := fix_one A2 (f1.trans f2) (RV.ok.keep o1 f2) n1 e4
  obtain ⟨g3, g4⟩ := ownL_some e5
  obtain ⟨a', ha', fa', xs, hx, rx⟩ := A3.own (a := 0) g3 g4
  rw [ha] at ha'
  cases ha'
  refine ⟨a, xs, i, j, rfl, rfl, hx, by rw [rx.length]; exact e6, ?_⟩
  obtain ⟨A4, f4⟩ := put_own (d' := .list (ds.set j d)) (o := .lst (xs.set j v)) A3 g3 g4 ha ⟨_, upd_same, rx.set j rd⟩
  exact k σ F3 _ A4 (f3.trans f4)
theorem rs_setIx (ho : PE X oe (tVar o)) (hi : PE X ie (tE X.K mi)) (he : PE X e (tE X.K me)) (ha : ∀ v, assign (.Subscript oe ie spos) X.env v = (do
      let ov ← holding [v] (eval oe X.env)
      let iv ← holding [v, ov] (eval ie X.env)
      standAt spos
      holding [v, ov, iv] (setItem ov iv v)
      release [v, ov, iv] []) := by intro _; rfl) (hs : swapsWithSole [.Subscript oe ie spos] e pos.line X.env = pure false := by rfl) (hw : swappedStores [.Subscript oe ie spos] e X.env = pure none := by rfl)
    (h1 : (assignEach [.Subscript oe ie spos] X.env).map (·.2) = [assign (.Subscript oe ie spos) X.env] := by rfl) : PS X (.Assign [.Subscript oe ie spos] e pos) (tS X.K (sSetIx o mi me)) :=
  ps_imp (ps_asg he (pg_sub ho hi set_list ha) hs hw h1) fun _ _ _ => setIx_to
theorem app_to {K : PySem.W.Frag} {σ : L2.St} {H : Hp} {Q : VK} (h : tE K (eApp o me) σ H Q) : tBM K "list" rAppend (tVar o) (tCons (tE K me) tNil) σ H Q := by
  obtain ⟨F, env, A, env', r, em, k⟩ := h
  obtain ⟨⟨x0, ds0⟩, e0, em⟩ := bind_some em
  obtain ⟨⟨env1, r1⟩, e1, em⟩ := bind_some em
  obtain ⟨⟨env2, d⟩, e2, em⟩ := bind_some em
  obtain ⟨⟨x, ds⟩, e3, em⟩ := bind_some em
  split at em
  case isFalse => cases em
  rename_i hz
  cases em
  obtain ⟨g1, g2⟩ := ownL_some e0
  obtain ⟨a, ha, fa, ys, hy, ry⟩ := A.own (a := 0) g1 g2
  refine ⟨.ref a, ha, .inl ⟨rfl, ys, SqL.of hy⟩, F, env, A, env1, r1, e1, fun v F1 H1 A1 f1 o1 n1 => ?_⟩
  obtain ⟨F2, A2, f2, rd, s2⟩ := fix_one A1 f1 o1 n1 e2
  obtain ⟨g3, g4⟩ := ownL_some e3
  obtain ⟨a', ha', fa', xs, hx, rx⟩ := A2.own (a := 0) g3 g4
  rw [ha] at ha'
  cases ha'
  have hl : xs.length < sizeLine := by rw [rx.length, ← lineN_eq]; exact hz
  obtain ⟨A3, f3⟩ := put_own (d' := .list (ds ++ [d])) (o := .lst (xs ++ [v])) A2 g3 g4 ha ⟨_, upd_same, rx.append (.cons rd .nil)⟩
  exact ⟨a, xs, v, rfl, rfl, hx, hl, k .non F2 _ A3 (f2.trans f3) Rp.non trivial⟩
theorem re_app (ho : PE X oe (tVar o)) (he : PE X e (tE X.K me)) (hbase : attributeBase oe "append" X.env (eval oe X.env) = eval oe X.env := by rfl)
    (hfew : ((backTo cpos (starEach [e] X.env)).all (fun x => !x.1) && (backToKw cpos (keywordEach [] X.env)).all (fun x => x.1.isSome) && decide ([e].length + ([] : List Keyword).length + (if ([] : List Keyword).isEmpty then 0 else 1) < 30)) = true := by rfl)
    (hline : (apos.endLine == cpos.line) = true := by rfl) (hs : starEach (e :: []) X.env = (false, eval e X.env) :: starEach [] X.env := by rfl) (hplain : (backTo cpos (starEach [] X.env)).any (·.1) = false := by rfl) :
    PE X (.Call (.Attribute oe "append" apos) [e] [] cpos) (tE X.K (eApp o me)) :=
  pe_imp (pe_bm PySem.F.plainAttrs_list PySem.F.slot_list_append PySem.F.type_list_append mt_append ho (pa_cons he pa_nil hs) hbase hfew hline hs hplain) fun _ _ _ => app_to
end
end L3

/-! L3K: module constants, not in a text. -/
namespace L3
open PySem PySem.Spec PyProof.Rows L2
section
variable {X : Cx}
/-- the bound of a while loop -/
def wN : Nat := 1000000
theorem re_gI {x : Str} {i : Int} {pos : Pos} (hg : Gl X x) (h : ∃ t, X.mg x = some (.int i t)) (hd : (x == ("__debug__" : Str)) = false := by decide) : PE X (.Name x pos) (tE X.K (eLit (.int i))) := by
  obtain ⟨t, e⟩ := h
  exact re_lit (pe_glob (v := .int i) hg e ⟨t, rfl⟩ hd) fun _ => .int i
theorem re_gS {x : Str} {z : Str} {pos : Pos} (hg : Gl X x) (h : ∃ t, X.mg x = some (.str z t)) (hd : (x == ("__debug__" : Str)) = false := by decide) : PE X (.Name x pos) (tE X.K (eLit (.str z))) := by
  obtain ⟨t, e⟩ := h
  exact re_lit (pe_glob (v := .str z) hg e ⟨t, rfl⟩ hd) fun _ => .str z
def notInD : PyData → PyData → Option RV
  | .str x, .str z => match x.cps.toList with
    | [c] => some (.fz (.bool (!decide (c ∈ z.cps.toList))))
    | _ => none
  | d, .list ds => if SeqAt.shaped d = true ∧ SeqAt.shaped (.list ds) = true then some (.fz (.bool (!ds.any fun z => PyData.eqv z d))) else none
  | d, .dict kvs => (keyOf d).bind fun k => if flatKs kvs = true then some (.fz (.bool (!(findK k kvs).isSome))) else none
  | _, _ => none
theorem o_notIn (hu : X.A.units + 65 < cLine) : OpR X (compareOp .NotIn) (rOp2 X.K notInD) := by
  intro pins s σ H x y v u Q I rx ry ⟨F, d, e, r, sm, kx, ky, hf, g⟩
  unfold notInD at hf
  split at hf
  · rename_i sx sy
    split at hf
    · rename_i c hc
      have ex : sx = ⟨#[c]⟩ := by
        have h0 : sx.cps = #[c] := by rw [← Array.toArray_toList (xs := sx.cps), hc]
        cases sx
        exact congrArg _ h0
      rw [kx.str, ex] at rx; rw [ky.str] at ry
      cases hf
      exact op_notIn_sign pins s σ H _ _ v u Q I rx ry ⟨c, sy, rfl, rfl, g.flat sm (.bl _)⟩
    · cases hf
  · rename_i ds
    split at hf
    case isFalse => cases hf
    rename_i hz
    cases hf
    exact op_notInD hu pins s σ H x y v u Q I rx ry ⟨d, ds, dp_of d x (kx.rp sm) (SeqAt.canLay_of_shaped hz.1), dp_of _ y (ky.rp sm) (SeqAt.canLay_of_shaped hz.2), hz.1, hz.2, g.flat sm (.bl _)⟩
  · rename_i kvs
    obtain ⟨k, e1, hf⟩ := bind_some hf
    split at hf
    case isFalse => cases hf
    rename_i hz
    cases hf
    obtain ⟨a, ks, ds, rfl, h1, h2, rfl⟩ := dict_at ky sm hz
    cases ry
    have ex := key_rel kx e1
    subst ex
    have e3 : (valV ks k).isSome = (findK k ((ks.map fun p => keyD p.1).zip ds)).isSome := by
      rcases find_val k h2 with ⟨q1, q2⟩ | ⟨v', d', q1, q2, _⟩
      · rw [q1, q2]
        rfl
      · rw [q1, q2]
        rfl
    refine d_notIn (by omega) I (.k h1) rx fun s' I' => ⟨.bl _, H, I', rfl, ?_⟩
    rw [e3]
    exact g.flat sm (.bl _)
  · cases hf
end
end L3

/-! L3P: what stands behind a run, step by step; continuations as closures. -/
namespace L3
open PySem PySem.Spec PyProof.Rows L2

def Wp {α : Type} (o : Option α) (P : α → Prop) : Prop := ∃ x, o = some x ∧ P x
section
variable {α β : Type} {o : Option α} {x : α} {P Q : α → Prop} {R : β → Prop} {f : α → Option β}
theorem wp_some : Wp (some x) P ↔ P x := ⟨fun ⟨_, e, h⟩ => by cases e; exact h, fun h => ⟨x, rfl, h⟩⟩
theorem wp_none : Wp (none : Option α) P ↔ False := ⟨fun ⟨_, e, _⟩ => (nomatch e), False.elim⟩
theorem wp_bind : Wp (o.bind f) R ↔ Wp o fun x => Wp (f x) R := by
  cases o with
  | none => exact wp_none.trans wp_none.symm
  | some x => exact ⟨fun h => ⟨x, rfl, h⟩, fun ⟨_, e, h⟩ => by cases e; exact h⟩
theorem Wp.imp (h : Wp o P) (i : ∀ x, P x → Q x) : Wp o Q := by
  obtain ⟨x, e, p⟩ := h
  exact ⟨x, e, i x p⟩
theorem wp_ite {c : Prop} [Decidable c] {a b : Option α} : Wp (if c then a else b) P ↔ (c → Wp a P) ∧ (¬ c → Wp b P) := by
  by_cases h : c
  · rw [if_pos h]; exact ⟨fun q => ⟨fun _ => q, fun n => (n h).elim⟩, fun q => q.1 h⟩
  · rw [if_neg h]; exact ⟨fun q => ⟨fun n => (h n).elim, fun _ => q⟩, fun q => q.2 h⟩
theorem wp_guard {c : Prop} [Decidable c] {a : Option α} : Wp (if c then a else none) P ↔ c ∧ Wp a P := by
  by_cases h : c
  · rw [if_pos h]; exact ⟨fun q => ⟨h, q⟩, fun q => q.2⟩
  · rw [if_neg h]; exact ⟨fun q => (wp_none.mp q).elim, fun q => (h q.1).elim⟩
end

def WE (m : ME) (e : MEnv) (P : MEnv → RV → Prop) : Prop := Wp (m e) fun p => P p.1 p.2
def WA (m : MA) (e : MEnv) (P : MEnv → List RV → Prop) : Prop := Wp (m e) fun p => P p.1 p.2
def WT (m : MT) (e : MEnv) (P : MEnv → Bool → Prop) : Prop := Wp (m e) fun p => P p.1 p.2
def WI (m : MI) (e : MEnv) (P : MEnv → List PyData → Prop) : Prop := Wp (m e) fun p => P p.1 p.2
def WO (m : MO) (e : MEnv) (P : MEnv → Option Int → Prop) : Prop := Wp (m e) fun p => P p.1 p.2
def WS (m : MS) (e : MEnv) (P : Out → Prop) : Prop := Wp (m e) P
def WG (g : MG) (d : PyData) (e : MEnv) (P : MEnv → Prop) : Prop := Wp (g d e) P
def WGs (g : MGs) (d : List PyData) (e : MEnv) (P : MEnv → Prop) : Prop := Wp (g d e) P
def WC (C : CF) (as : List SV) (P : List SV → RV → Prop) : Prop := Wp (C as) fun p => P p.1 p.2
def WX (e : MEnv) (i : Nat) (P : SV → Prop) : Prop := Wp (e[i]?) P
def WV (r : RV) (e : MEnv) (P : PyData → Prop) : Prop := Wp (r.view e) P
def WF (r : RV) (e : MEnv) (P : MEnv → PyData → Prop) : Prop := Wp (r.fix e) fun p => P p.1 p.2
theorem WE.imp {m : ME} {e : MEnv} {P Q : MEnv → RV → Prop} (h : WE m e P) (i : ∀ e r, P e r → Q e r) : WE m e Q := Wp.imp h fun x => i x.1 x.2
theorem WT.imp {m : MT} {e : MEnv} {P Q : MEnv → Bool → Prop} (h : WT m e P) (i : ∀ e r, P e r → Q e r) : WT m e Q := Wp.imp h fun x => i x.1 x.2
theorem WS.imp {m : MS} {e : MEnv} {P Q : Out → Prop} (h : WS m e P) (i : ∀ o, P o → Q o) : WS m e Q := Wp.imp h i
theorem WC.imp {m : CF} {e : List SV} {P Q : List SV → RV → Prop} (h : WC m e P) (i : ∀ e r, P e r → Q e r) : WC m e Q := Wp.imp h fun x => i x.1 x.2

section
variable {e : MEnv} {i n : Nat} {x : SV} {xs : List SV} {d : PyData} {P : SV → Prop} {Q : PyData → Prop} {R : MEnv → PyData → Prop}
theorem wx_0 : WX (x :: xs) 0 P ↔ P x := wp_some
theorem wx_s : WX (x :: xs) (n + 1) P ↔ WX xs n P := Iff.rfl
theorem wv_fz : WV (.fz d) e Q ↔ Q d := wp_some
theorem wv_own : WV (.own d) e Q ↔ Q d := wp_some
def kView (Q : PyData → Prop) (x : SV) : Prop := Wp x.view Q
theorem wv_plc : WV (.plc i) e Q ↔ WX e i (kView Q) := wp_bind
theorem kView_fz : kView Q (.fz d) ↔ Q d := wp_some
theorem kView_own : kView Q (.own d) ↔ Q d := wp_some
theorem kView_ref : kView Q (.ref d) ↔ Q d := wp_some
theorem kView_rfz : kView Q (.rfz d) ↔ Q d := wp_some
theorem wf_fz : WF (.fz d) e R ↔ R e d := wp_some
theorem wf_own : WF (.own d) e R ↔ R e d := wp_some
def kFix (e : MEnv) (i : Nat) (R : MEnv → PyData → Prop) (x : SV) : Prop := Wp x.view fun d => R (e.set i x.freeze) d
theorem wf_plc : WF (.plc i) e R ↔ WX e i (kFix e i R) := by
  unfold WF WX RV.fix
  rw [wp_bind]
  refine ⟨fun h => h.imp fun x h => ?_, fun h => h.imp fun x h => ?_⟩
  · rw [wp_bind] at h
    exact h.imp fun d h => (wp_some.mp h :)
  · rw [wp_bind]
    exact Wp.imp h fun d h => wp_some.mpr h
theorem kFix_fz : kFix e i R (.fz d) ↔ R (e.set i (.fz d)) d := wp_some
theorem kFix_rfz : kFix e i R (.rfz d) ↔ R (e.set i (.rfz d)) d := wp_some
theorem kFix_own : kFix e i R (.own d) ↔ R (e.set i (.fz d)) d := wp_some
theorem kFix_ref : kFix e i R (.ref d) ↔ R (e.set i (.rfz d)) d := wp_some
end

/-! ### expressions -/
section
variable {e : MEnv} {i n : Nat} {d d2 : PyData} {r r2 : RV} {rs : List RV} {P : MEnv → RV → Prop} {Pa : MEnv → List RV → Prop} {Pt : MEnv → Bool → Prop} {m ma mb mc : ME} {ms : MA} {s t : MT} {f g : PyData → PyData → Option RV} {f1 : PyData → Option RV} {fc : List PyData → Option RV} {b : Bool}
theorem we_lit : WE (eLit d) e P ↔ P e (.fz d) := wp_some
def kSlot (e : MEnv) (i : Nat) (P : MEnv → RV → Prop) : SV → Prop
  | .unb => False
  | .fz d => P e (.fz d)
  | .rfz d => P e (.fz d)
  | .own _ => P e (.plc i)
  | .ref _ => P e (.plc i)
theorem we_slot : WE (eSlot i) e P ↔ WX e i (kSlot e i P) := by
  unfold WE WX eSlot
  cases h : e[i]? with
  | none => exact wp_none.trans wp_none.symm
  | some x => cases x <;> first | exact ⟨fun h => (wp_none.mp h).elim, fun ⟨_, e, h⟩ => by cases e; exact h.elim⟩ | exact ⟨fun ⟨_, e, h⟩ => by cases e; exact ⟨_, rfl, h⟩, fun ⟨_, e, h⟩ => by cases e; exact ⟨_, rfl, h⟩⟩
theorem kSlot_fz : kSlot e i P (.fz d) ↔ P e (.fz d) := Iff.rfl
theorem kSlot_rfz : kSlot e i P (.rfz d) ↔ P e (.fz d) := Iff.rfl
theorem kSlot_own : kSlot e i P (.own d) ↔ P e (.plc i) := Iff.rfl
theorem kSlot_ref : kSlot e i P (.ref d) ↔ P e (.plc i) := Iff.rfl
theorem wa_nil : WA aNil e Pa ↔ Pa e [] := wp_some
def kCons1 (ms : MA) (Pa : MEnv → List RV → Prop) (e : MEnv) (r : RV) : Prop := WA ms e fun e rs => Pa e (r :: rs)
def kCons2 (r : RV) (Pa : MEnv → List RV → Prop) (e : MEnv) (rs : List RV) : Prop := Pa e (r :: rs)
theorem wa_cons : WA (aCons m ms) e Pa ↔ WE m e (kCons1 ms Pa) := by
  unfold WA WE aCons kCons1 WA
  rw [wp_bind]
  refine ⟨fun h => h.imp fun x h => ?_, fun h => h.imp fun x h => ?_⟩
  · rw [wp_bind] at h
    exact h.imp fun d h => (wp_some.mp h :)
  · rw [wp_bind]
    exact Wp.imp h fun d h => wp_some.mpr h
theorem kCons1_eq : kCons1 ms Pa e r ↔ WA ms e (kCons2 r Pa) := Iff.rfl
theorem kCons2_eq : kCons2 r Pa e rs ↔ Pa e (r :: rs) := Iff.rfl
/-- all views -/
def WVs (rs : List RV) (e : MEnv) (P : List PyData → Prop) : Prop := Wp (viewAll e rs) P
def kVs1 (rs : List RV) (e : MEnv) (Q : List PyData → Prop) (d : PyData) : Prop := WVs rs e fun ds => Q (d :: ds)
def kVs2 (d : PyData) (Q : List PyData → Prop) (ds : List PyData) : Prop := Q (d :: ds)
theorem wvs_nil {Q : List PyData → Prop} : WVs [] e Q ↔ Q [] := wp_some
theorem wvs_cons {Q : List PyData → Prop} : WVs (r :: rs) e Q ↔ WV r e (kVs1 rs e Q) := by
  unfold WVs WV viewAll kVs1 WVs
  rw [wp_bind]
  refine ⟨fun h => h.imp fun x h => ?_, fun h => h.imp fun x h => ?_⟩
  · rw [wp_bind] at h
    exact h.imp fun d h => (wp_some.mp h :)
  · rw [wp_bind]
    exact Wp.imp h fun d h => wp_some.mpr h
theorem kVs1_eq {Q : List PyData → Prop} : kVs1 rs e Q d ↔ WVs rs e (kVs2 d Q) := Iff.rfl
theorem kVs2_eq {Q : List PyData → Prop} {ds : List PyData} : kVs2 d Q ds ↔ Q (d :: ds) := Iff.rfl
/-- operators -/
def kOp2d (f : PyData → PyData → Option RV) (d : PyData) (P : MEnv → RV → Prop) (e : MEnv) (d2 : PyData) : Prop := Wp (f d d2) (P e)
def kOp2c (f : PyData → PyData → Option RV) (r2 : RV) (P : MEnv → RV → Prop) (e : MEnv) (d : PyData) : Prop := WV r2 e (kOp2d f d P e)
def kOp2b (f : PyData → PyData → Option RV) (r : RV) (P : MEnv → RV → Prop) (e : MEnv) (r2 : RV) : Prop := WV r e (kOp2c f r2 P e)
def kOp2a (f : PyData → PyData → Option RV) (mb : ME) (P : MEnv → RV → Prop) (e : MEnv) (r : RV) : Prop := WE mb e (kOp2b f r P)
theorem we_op2 : WE (eOp2 f ma mb) e P ↔ WE ma e (kOp2a f mb P) := by
  simp only [WE, WV, eOp2, wp_bind, wp_some]
  try exact Iff.rfl
theorem kOp2a_eq : kOp2a f mb P e r ↔ WE mb e (kOp2b f r P) := Iff.rfl
theorem kOp2b_eq : kOp2b f r P e r2 ↔ WV r e (kOp2c f r2 P e) := Iff.rfl
theorem kOp2c_eq : kOp2c f r2 P e d ↔ WV r2 e (kOp2d f d P e) := Iff.rfl
theorem kOp2d_eq : kOp2d f d P e d2 ↔ Wp (f d d2) (P e) := Iff.rfl
def kOp1b (f : PyData → Option RV) (P : MEnv → RV → Prop) (e : MEnv) (d : PyData) : Prop := Wp (f d) (P e)
def kOp1a (f : PyData → Option RV) (P : MEnv → RV → Prop) (e : MEnv) (r : RV) : Prop := WV r e (kOp1b f P e)
theorem we_op1 : WE (eOp1 f1 m) e P ↔ WE m e (kOp1a f1 P) := by
  simp only [WE, WV, eOp1, wp_bind, wp_some]
  try exact Iff.rfl
theorem kOp1a_eq : kOp1a f1 P e r ↔ WV r e (kOp1b f1 P e) := Iff.rfl
theorem kOp1b_eq : kOp1b f1 P e d ↔ Wp (f1 d) (P e) := Iff.rfl
def kCallb (f : List PyData → Option RV) (P : MEnv → RV → Prop) (e : MEnv) (ds : List PyData) : Prop := Wp (f ds) (P e)
def kCalla (f : List PyData → Option RV) (P : MEnv → RV → Prop) (e : MEnv) (rs : List RV) : Prop := WVs rs e (kCallb f P e)
theorem we_call : WE (eCall fc ms) e P ↔ WA ms e (kCalla fc P) := by
  simp only [WE, WA, WVs, eCall, wp_bind, wp_some]
  try exact Iff.rfl
theorem kCalla_eq : kCalla fc P e rs ↔ WVs rs e (kCallb fc P e) := Iff.rfl
theorem kCallb_eq {ds : List PyData} : kCallb fc P e ds ↔ Wp (fc ds) (P e) := Iff.rfl
/-- tests -/
def kAsT (Pt : MEnv → Bool → Prop) (e : MEnv) : RV → Prop
  | .fz (.bool b) => Pt e b
  | _ => False
theorem wt_asT : WT (asT m) e Pt ↔ WE m e (kAsT Pt) := by
  unfold WT WE asT
  rw [wp_bind]
  refine ⟨fun h => h.imp fun x h => ?_, fun h => h.imp fun x h => ?_⟩
  · split at h
    · rename_i hx
      rw [hx]
      exact (wp_some.mp h :)
    · exact (wp_none.mp h).elim
  · unfold kAsT at h
    split at h
    · rename_i hx
      first
        | exact wp_some.mpr h
        | (rw [hx]
           exact wp_some.mpr h)
    · exact h.elim
theorem kAsT_eq : kAsT Pt e (.fz (.bool b)) ↔ Pt e b := Iff.rfl
def kAnd (t : MT) (Pt : MEnv → Bool → Prop) (e : MEnv) (b : Bool) : Prop := if b = true then WT t e Pt else Pt e false
def kOr (t : MT) (Pt : MEnv → Bool → Prop) (e : MEnv) (b : Bool) : Prop := if b = true then Pt e true else WT t e Pt
def kNot (Pt : MEnv → Bool → Prop) (e : MEnv) (b : Bool) : Prop := Pt e (!b)
theorem wp_ite' {α : Type} {P : α → Prop} {c : Prop} [Decidable c] {x y : Option α} : Wp (if c then x else y) P ↔ if c then Wp x P else Wp y P := by
  by_cases h : c
  · rw [if_pos h, if_pos h]
  · rw [if_neg h, if_neg h]
theorem wt_and : WT (mAnd s t) e Pt ↔ WT s e (kAnd t Pt) := by
  simp only [WT, mAnd, wp_bind, wp_some, wp_ite']
  try exact Iff.rfl
theorem wt_or : WT (mOr s t) e Pt ↔ WT s e (kOr t Pt) := by
  simp only [WT, mOr, wp_bind, wp_some, wp_ite']
  try exact Iff.rfl
theorem wt_not : WT (mNot s) e Pt ↔ WT s e (kNot Pt) := by
  simp only [WT, mNot, wp_bind, wp_some]
  try exact Iff.rfl
theorem kAnd_t : kAnd t Pt e true ↔ WT t e Pt := by simp [kAnd]
theorem kAnd_f : kAnd t Pt e false ↔ Pt e false := by simp [kAnd]
theorem kOr_t : kOr t Pt e true ↔ Pt e true := by simp [kOr]
theorem kOr_f : kOr t Pt e false ↔ WT t e Pt := by simp [kOr]
theorem kNot_eq : kNot Pt e b ↔ Pt e (!b) := Iff.rfl
theorem kAnd_i (h : b = true → WT t e Pt) (h' : b = false → Pt e false) : kAnd t Pt e b := by
  cases b with
  | true => exact kAnd_t.mpr (h rfl)
  | false => exact kAnd_f.mpr (h' rfl)
theorem kOr_i (h : b = true → Pt e true) (h' : b = false → WT t e Pt) : kOr t Pt e b := by
  cases b with
  | true => exact kOr_t.mpr (h rfl)
  | false => exact kOr_f.mpr (h' rfl)
def kET (P : MEnv → RV → Prop) (e : MEnv) (b : Bool) : Prop := P e (.fz (.bool b))
theorem we_eT : WE (eT t) e P ↔ WT t e (kET P) := by
  simp only [WE, WT, eT, wp_bind, wp_some]
  try exact Iff.rfl
theorem kET_eq : kET P e b ↔ P e (.fz (.bool b)) := Iff.rfl
def kIfE (m n : ME) (P : MEnv → RV → Prop) (e : MEnv) (b : Bool) : Prop := if b = true then WE m e P else WE n e P
theorem we_if : WE (eIf t ma mb) e P ↔ WT t e (kIfE ma mb P) := by
  simp only [WE, WT, eIf, wp_bind, wp_some, wp_ite']
  try exact Iff.rfl
theorem kIfE_t : kIfE ma mb P e true ↔ WE ma e P := by simp [kIfE]
theorem kIfE_f : kIfE ma mb P e false ↔ WE mb e P := by simp [kIfE]
theorem kIfE_i (h : b = true → WE ma e P) (h' : b = false → WE mb e P) : kIfE ma mb P e b := by
  cases b with
  | true => exact kIfE_t.mpr (h rfl)
  | false => exact kIfE_f.mpr (h' rfl)
/-- chains -/
def kCh5 (g : PyData → PyData → Option RV) (r2 : RV) (mc : ME) (P : MEnv → RV → Prop) (e : MEnv) : RV → Prop
  | .fz (.bool true) => WE mc e (kOp2b g r2 P)
  | .fz (.bool false) => P e (.fz (.bool false))
  | _ => False
def kCh4 (f g : PyData → PyData → Option RV) (d : PyData) (r2 : RV) (mc : ME) (P : MEnv → RV → Prop) (e : MEnv) (d2 : PyData) : Prop := Wp (f d d2) (kCh5 g r2 mc P e)
def kCh3 (f g : PyData → PyData → Option RV) (r2 : RV) (mc : ME) (P : MEnv → RV → Prop) (e : MEnv) (d : PyData) : Prop := WV r2 e (kCh4 f g d r2 mc P e)
def kCh2 (f g : PyData → PyData → Option RV) (r : RV) (mc : ME) (P : MEnv → RV → Prop) (e : MEnv) (r2 : RV) : Prop := WV r e (kCh3 f g r2 mc P e)
def kCh1 (f g : PyData → PyData → Option RV) (mb mc : ME) (P : MEnv → RV → Prop) (e : MEnv) (r : RV) : Prop := WE mb e (kCh2 f g r mc P)
theorem we_chain : WE (eChain f g ma mb mc) e P ↔ WE ma e (kCh1 f g mb mc P) := by
  simp only [WE, WV, eChain, kCh1, kCh2, kCh3, kCh4, wp_bind, wp_some]
  refine ⟨fun h => h.imp fun p h => h.imp fun q h => h.imp fun d h => h.imp fun d2 h => h.imp fun r h => ?_, fun h => h.imp fun p h => h.imp fun q h => h.imp fun d h => h.imp fun d2 h => h.imp fun r h => ?_⟩
  · split at h
    · simp only [kCh5, WE, WV, kOp2b, kOp2c, kOp2d, wp_bind, wp_some] at h ⊢
      exact h
    · exact (wp_some.mp h :)
    · exact (wp_none.mp h).elim
  · unfold kCh5 at h
    split at h
    · simp only [WE, WV, kOp2b, kOp2c, kOp2d, wp_bind, wp_some] at h ⊢
      exact h
    · exact wp_some.mpr h
    · exact h.elim
theorem kCh1_eq : kCh1 f g mb mc P e r ↔ WE mb e (kCh2 f g r mc P) := Iff.rfl
theorem kCh2_eq : kCh2 f g r mc P e r2 ↔ WV r e (kCh3 f g r2 mc P e) := Iff.rfl
theorem kCh3_eq : kCh3 f g r2 mc P e d ↔ WV r2 e (kCh4 f g d r2 mc P e) := Iff.rfl
theorem kCh4_eq : kCh4 f g d r2 mc P e d2 ↔ Wp (f d d2) (kCh5 g r2 mc P e) := Iff.rfl
theorem kCh5_t : kCh5 g r2 mc P e (.fz (.bool true)) ↔ WE mc e (kOp2b g r2 P) := Iff.rfl
theorem kCh5_f : kCh5 g r2 mc P e (.fz (.bool false)) ↔ P e (.fz (.bool false)) := Iff.rfl
theorem kCh5_i (h : b = true → WE mc e (kOp2b g r2 P)) (h' : b = false → P e (.fz (.bool false))) : kCh5 g r2 mc P e (.fz (.bool b)) := by
  cases b with
  | true => exact h rfl
  | false => exact h' rfl
/-- displays -/
def WFs (rs : List RV) (e : MEnv) (P : MEnv → List PyData → Prop) : Prop := Wp (fixAll e rs) fun p => P p.1 p.2
def kFs2 (d : PyData) (Q : MEnv → List PyData → Prop) (e : MEnv) (ds : List PyData) : Prop := Q e (d :: ds)
def kFs1 (rs : List RV) (Q : MEnv → List PyData → Prop) (e : MEnv) (d : PyData) : Prop := WFs rs e (kFs2 d Q)
theorem wfs_nil {Q : MEnv → List PyData → Prop} : WFs [] e Q ↔ Q e [] := wp_some
theorem wfs_cons {Q : MEnv → List PyData → Prop} : WFs (r :: rs) e Q ↔ WF r e (kFs1 rs Q) := by
  simp only [WFs, WF, fixAll, wp_bind, wp_some]
  try exact Iff.rfl
theorem kFs1_eq {Q : MEnv → List PyData → Prop} : kFs1 rs Q e d ↔ WFs rs e (kFs2 d Q) := Iff.rfl
theorem kFs2_eq {Q : MEnv → List PyData → Prop} {ds : List PyData} : kFs2 d Q e ds ↔ Q e (d :: ds) := Iff.rfl
def kTupb (P : MEnv → RV → Prop) (e : MEnv) (ds : List PyData) : Prop := ds.length ≤ lineN ∧ P e (.fz (.tuple ds))
def kTup (P : MEnv → RV → Prop) (e : MEnv) (rs : List RV) : Prop := WFs rs e (kTupb P)
def kLstb (P : MEnv → RV → Prop) (e : MEnv) (ds : List PyData) : Prop := ds.length ≤ lineN ∧ P e (.own (.list ds))
def kLst (P : MEnv → RV → Prop) (e : MEnv) (rs : List RV) : Prop := WFs rs e (kLstb P)
theorem we_tup : WE (eTup ms) e P ↔ WA ms e (kTup P) := by
  simp only [WE, WA, WFs, eTup, wp_bind, wp_some, wp_guard]
  try exact Iff.rfl
theorem we_lst : WE (eLst ms) e P ↔ WA ms e (kLst P) := by
  simp only [WE, WA, WFs, eLst, wp_bind, wp_some, wp_guard]
  try exact Iff.rfl
theorem kTup_eq : kTup P e rs ↔ WFs rs e (kTupb P) := Iff.rfl
theorem kTupb_eq {ds : List PyData} : kTupb P e ds ↔ ds.length ≤ lineN ∧ P e (.fz (.tuple ds)) := Iff.rfl
theorem kLst_eq : kLst P e rs ↔ WFs rs e (kLstb P) := Iff.rfl
theorem kLstb_eq {ds : List PyData} : kLstb P e ds ↔ ds.length ≤ lineN ∧ P e (.own (.list ds)) := Iff.rfl
def kDictc (vs : List Key × List PyData → Prop) (q : List Key × List PyData) : Prop := vs q
def kDictb (P : MEnv → RV → Prop) (e : MEnv) (ds : List PyData) : Prop := ∃ kv, splitKV ds = some kv ∧ (kv.1.Nodup ∧ kv.1.length ≤ 15) ∧ P e (.own (.dict ((kv.1.map keyD).zip kv.2)))
def kDict (P : MEnv → RV → Prop) (e : MEnv) (rs : List RV) : Prop := WFs rs e (kDictb P)
theorem we_dict {ps : List (ME × ME)} : WE (eDict ps) e P ↔ WA (aPairs ps) e (kDict P) := by
  simp only [WE, WA, WFs, eDict, wp_bind, wp_some, wp_guard]
  try exact Iff.rfl
theorem kDict_eq : kDict P e rs ↔ WFs rs e (kDictb P) := Iff.rfl
theorem kDictb_nil : kDictb P e [] ↔ P e (.own (.dict [])) := ⟨fun ⟨kv, h, _, q⟩ => by cases h; exact q, fun q => ⟨_, rfl, ⟨List.nodup_nil, by decide⟩, q⟩⟩
theorem kDictb_1 {a b : PyData} {k : Key} (hk : keyOf a = some k) (h : P e (.own (.dict [(keyD k, b)]))) : kDictb P e [a, b] :=
  ⟨([k], [b]), by unfold splitKV; rw [hk]; rfl, ⟨by simp, by simp⟩, h⟩
theorem wa_pairs0 {Pa : MEnv → List RV → Prop} : WA (aPairs []) e Pa ↔ Pa e [] := wp_some
theorem wa_pairs {ps : List (ME × ME)} {Pa : MEnv → List RV → Prop} : WA (aPairs ((ma, mb) :: ps)) e Pa ↔ WA (aCons ma (aCons mb (aPairs ps))) e Pa := Iff.rfl
/-! slices -/
variable {Po : MEnv → Option Int → Prop} {l h : MO} {fs : PyData → Option Int → Option Int → Option RV}
def kSm (Po : MEnv → Option Int → Prop) (e : MEnv) : RV → Prop
  | .fz (.int i) => Po e (some i)
  | _ => False
theorem kInt {m : ME} {Pi : MEnv → Int → Prop} : (Wp (m e) fun p => Wp (intOf p.2) fun i => Pi p.1 i) ↔ WE m e fun e r => match r with | .fz (.int i) => Pi e i | _ => False := by
  unfold WE
  refine ⟨fun h => h.imp fun x h => ?_, fun h => h.imp fun x h => ?_⟩
  · obtain ⟨i, e1, h⟩ := h
    rw [intOf_some e1]
    exact h
  · dsimp only at h
    split at h
    · rename_i hx
      rw [hx]
      exact ⟨_, rfl, h⟩
    · exact h.elim
theorem wo_no : WO oNo e Po ↔ Po e none := wp_some
theorem wo_sm : WO (oSm m) e Po ↔ WE m e (kSm Po) := by
  have := kInt (e := e) (m := m) (Pi := fun e i => Po e (some i))
  simp only [WO, oSm, wp_bind, wp_some]
  exact this
theorem kSm_eq {i : Int} : kSm Po e (.fz (.int i)) ↔ Po e (some i) := Iff.rfl
def kSl4 (fs : PyData → Option Int → Option Int → Option RV) (o o2 : Option Int) (P : MEnv → RV → Prop) (e : MEnv) (d : PyData) : Prop := Wp (fs d o o2) (P e)
def kSl3 (fs : PyData → Option Int → Option Int → Option RV) (r : RV) (o : Option Int) (P : MEnv → RV → Prop) (e : MEnv) (o2 : Option Int) : Prop := WV r e (kSl4 fs o o2 P e)
def kSl2 (fs : PyData → Option Int → Option Int → Option RV) (r : RV) (h : MO) (P : MEnv → RV → Prop) (e : MEnv) (o : Option Int) : Prop := WO h e (kSl3 fs r o P)
def kSl1 (fs : PyData → Option Int → Option Int → Option RV) (l h : MO) (P : MEnv → RV → Prop) (e : MEnv) (r : RV) : Prop := WO l e (kSl2 fs r h P)
theorem we_sl : WE (eSl fs m l h) e P ↔ WE m e (kSl1 fs l h P) := by
  simp only [WE, WO, WV, eSl, wp_bind, wp_some]
  try exact Iff.rfl
theorem kSl1_eq : kSl1 fs l h P e r ↔ WO l e (kSl2 fs r h P) := Iff.rfl
theorem kSl2_eq {o : Option Int} : kSl2 fs r h P e o ↔ WO h e (kSl3 fs r o P) := Iff.rfl
theorem kSl3_eq {o o2 : Option Int} : kSl3 fs r o P e o2 ↔ WV r e (kSl4 fs o o2 P e) := Iff.rfl
theorem kSl4_eq {o o2 : Option Int} : kSl4 fs o o2 P e d ↔ Wp (fs d o o2) (P e) := Iff.rfl
/-! methods of texts -/
variable {fm0 : Str → Option RV} {fm1 : Str → PyData → Option RV} {z : Str}
def kM0 (f : Str → Option RV) (P : MEnv → RV → Prop) (e : MEnv) : RV → Prop
  | .fz (.str z) => Wp (f z) (P e)
  | _ => False
def kM1c (f : Str → PyData → Option RV) (z : Str) (P : MEnv → RV → Prop) (e : MEnv) (d : PyData) : Prop := Wp (f z d) (P e)
def kM1b (f : Str → PyData → Option RV) (z : Str) (P : MEnv → RV → Prop) (e : MEnv) (r : RV) : Prop := WV r e (kM1c f z P e)
def kM1 (f : Str → PyData → Option RV) (m : ME) (P : MEnv → RV → Prop) (e : MEnv) : RV → Prop
  | .fz (.str z) => WE m e (kM1b f z P)
  | _ => False
theorem kStr {m : ME} {Pi : MEnv → Str → Prop} : (Wp (m e) fun p => Wp (strOf p.2) fun i => Pi p.1 i) ↔ WE m e fun e r => match r with | .fz (.str i) => Pi e i | _ => False := by
  unfold WE
  refine ⟨fun h => h.imp fun x h => ?_, fun h => h.imp fun x h => ?_⟩
  · obtain ⟨i, e1, h⟩ := h
    rw [strOf_some e1]
    exact h
  · dsimp only at h
    split at h
    · rename_i hx
      rw [hx]
      exact ⟨_, rfl, h⟩
    · exact h.elim
theorem we_m0 : WE (eM0 fm0 m) e P ↔ WE m e (kM0 fm0 P) := by
  have := kStr (e := e) (m := m) (Pi := fun e z => Wp (fm0 z) (P e))
  simp only [WE, eM0, wp_bind, wp_some] at this ⊢
  exact this
theorem we_m1 : WE (eM1 fm1 ma m) e P ↔ WE ma e (kM1 fm1 m P) := by
  have := kStr (e := e) (m := ma) (Pi := fun e z => WE m e (kM1b fm1 z P))
  simp only [WE, WV, kM1b, kM1c, eM1, wp_bind, wp_some] at this ⊢
  exact this
theorem kM0_eq : kM0 fm0 P e (.fz (.str z)) ↔ Wp (fm0 z) (P e) := Iff.rfl
theorem kM1_eq : kM1 fm1 m P e (.fz (.str z)) ↔ WE m e (kM1b fm1 z P) := Iff.rfl
theorem kM1b_eq : kM1b fm1 z P e r ↔ WV r e (kM1c fm1 z P e) := Iff.rfl
theorem kM1c_eq : kM1c fm1 z P e d ↔ Wp (fm1 z d) (P e) := Iff.rfl
end

/-! ### targets, walks -/
section
variable {e : MEnv} {i j n : Nat} {d : PyData} {ds : List PyData} {x : SV} {r : RV} {P : MEnv → Prop} {Pi : MEnv → List PyData → Prop} {m ma mb : ME} {g : MG} {gs : MGs}
def kGSlot (i : Nat) (d : PyData) (e : MEnv) (P : MEnv → Prop) (x : SV) : Prop := x.lock = false ∧ P (e.set i (.fz d))
theorem not_true {b : Bool} : ¬ b = true ↔ b = false := by cases b <;> simp
theorem wg_slot : WG (gSlot i) d e P ↔ WX e i (kGSlot i d e P) := by
  unfold WG WX gSlot
  rw [wp_bind]
  refine ⟨fun h => h.imp fun x h => ?_, fun h => h.imp fun x h => ?_⟩
  · by_cases hl : x.lock = true
    · rw [if_pos hl] at h; exact (wp_none.mp h).elim
    · rw [if_neg hl] at h; exact ⟨not_true.mp hl, (wp_some.mp h :)⟩
  · rw [if_neg (not_true.mpr h.1)]; exact wp_some.mpr h.2
theorem kGSlot_eq : kGSlot i d e P x ↔ x.lock = false ∧ P (e.set i (.fz d)) := Iff.rfl
def kGs (gs : MGs) (ds : List PyData) (P : MEnv → Prop) (e : MEnv) : Prop := WGs gs ds e P
theorem wgs_nil : WGs gsNil [] e P ↔ P e := wp_some
theorem wgs_cons : WGs (gsCons g gs) (d :: ds) e P ↔ WG g d e (kGs gs ds P) := wp_bind
theorem kGs_eq : kGs gs ds P e ↔ WGs gs ds e P := Iff.rfl
theorem wg_unp : WG (gUnp n gs) (.tuple ds) e P ↔ ds.length = n ∧ WGs gs ds e P := wp_guard
def kIAny (Pi : MEnv → List PyData → Prop) (e : MEnv) : PyData → Prop
  | .list ds => Pi e ds
  | .tuple ds => Pi e ds
  | .str x => Pi e (signD x)
  | _ => False
def kIAnyA (Pi : MEnv → List PyData → Prop) (e : MEnv) (r : RV) : Prop := WF r e (kIAny Pi)
theorem wi_any : WI (iAny m) e Pi ↔ WE m e (kIAnyA Pi) := by
  simp only [WI, WE, WF, iAny, kIAnyA, wp_bind]
  refine ⟨fun h => h.imp fun x h => h.imp fun y h => ?_, fun h => h.imp fun x h => h.imp fun y h => ?_⟩
  · obtain ⟨y1, y2⟩ := y
    cases y2 <;> first | exact (wp_some.mp h :) | exact (wp_none.mp h).elim
  · obtain ⟨y1, y2⟩ := y
    cases y2 <;> first | exact wp_some.mpr h | exact h.elim
theorem kIAnyA_eq : kIAnyA Pi e r ↔ WF r e (kIAny Pi) := Iff.rfl
theorem kIAny_l : kIAny Pi e (.list ds) ↔ Pi e ds := Iff.rfl
theorem kIAny_t : kIAny Pi e (.tuple ds) ↔ Pi e ds := Iff.rfl
theorem kIAny_s {z : Str} : kIAny Pi e (.str z) ↔ Pi e (signD z) := Iff.rfl
def rangeD (lo hi : Int) : List PyData := (List.range (hi - lo).toNat).map fun k => PyData.int (lo + (k : Nat))
def kR1 (Pi : MEnv → List PyData → Prop) (e : MEnv) : RV → Prop
  | .fz (.int j) => (-(2 ^ 62) ≤ j ∧ j < 2 ^ 62) ∧ Pi e (rangeD 0 j)
  | _ => False
def kR2b (i : Int) (Pi : MEnv → List PyData → Prop) (e : MEnv) (j : Int) : Prop := (-(2 ^ 62) ≤ i ∧ i < 2 ^ 62 ∧ -(2 ^ 62) ≤ j ∧ j < 2 ^ 62) ∧ Pi e (rangeD i j)
def kR2a (r : RV) (Pi : MEnv → List PyData → Prop) (e : MEnv) (r2 : RV) : Prop := ∃ i, intOf r = some i ∧ ∃ j, intOf r2 = some j ∧ kR2b i Pi e j
def kR2 (mb : ME) (Pi : MEnv → List PyData → Prop) (e : MEnv) (r : RV) : Prop := WE mb e (kR2a r Pi)
theorem rangeD_0 (j : Int) : rangeD 0 j = (List.range j.toNat).map fun i => PyData.int (0 + (i : Nat)) := by
  unfold rangeD
  rw [Int.sub_zero]
theorem wi_r1 : WI (iRange1 m) e Pi ↔ WE m e (kR1 Pi) := by
  have := kInt (e := e) (m := m) (Pi := fun e j => (-(2 ^ 62) ≤ j ∧ j < 2 ^ 62) ∧ Pi e (rangeD 0 j))
  simp only [WI, iRange1, wp_bind, wp_guard, wp_some]
  simp only [rangeD_0] at this
  refine this.trans ?_
  unfold WE
  refine ⟨fun h => h.imp fun x h => ?_, fun h => h.imp fun x h => ?_⟩
  · unfold kR1
    dsimp only at h
    split at h
    · rename_i hx; rw [rangeD_0]; exact h
    · exact h.elim
  · unfold kR1 at h
    split at h
    · rename_i hx; rw [hx]; rw [rangeD_0] at h; exact h
    · exact h.elim
theorem wi_r2 : WI (iRange2 ma mb) e Pi ↔ WE ma e (kR2 mb Pi) := by
  simp only [WI, iRange2, WE, wp_bind, wp_guard, wp_some]
  try exact Iff.rfl
theorem kR1_eq {j : Int} : kR1 Pi e (.fz (.int j)) ↔ (-(2 ^ 62) ≤ j ∧ j < 2 ^ 62) ∧ Pi e (rangeD 0 j) := Iff.rfl
theorem kR2_eq : kR2 mb Pi e r ↔ WE mb e (kR2a r Pi) := Iff.rfl
theorem kR2a_eq {i j : Int} : kR2a (.fz (.int i)) Pi e (.fz (.int j)) ↔ (-(2 ^ 62) ≤ i ∧ i < 2 ^ 62 ∧ -(2 ^ 62) ≤ j ∧ j < 2 ^ 62) ∧ Pi e (rangeD i j) :=
  ⟨fun ⟨_, h1, _, h2, h⟩ => by cases h1; cases h2; exact h, fun h => ⟨_, rfl, _, rfl, h⟩⟩
end

/-! ### comprehensions -/
section
variable {e e' : MEnv} {d : PyData} {ds acc : List PyData} {r : RV} {b : Bool} {g : MG} {t : MT} {m : ME} {mi : MI} {vs : List Nat} {P : MEnv → RV → Prop} {J : MEnv → List PyData → Prop}
def kLcE (vs : List Nat) (e : MEnv) (P : MEnv → RV → Prop) (p : MEnv × List PyData) : Prop := P (backE e p.1 vs) (.own (.list p.2))
def kLc (vs : List Nat) (g : MG) (t : MT) (m : ME) (P : MEnv → RV → Prop) (e : MEnv) (ds : List PyData) : Prop := unlocked e vs = true ∧ Wp (lcLoop g t m vs ds (wipeE e vs) []) (kLcE vs e P)
theorem we_lc : WE (eLc vs g mi t m) e P ↔ WI mi e (kLc vs g t m P) := by
  simp only [WE, WI, eLc, wp_bind, wp_guard, wp_some]
  try exact Iff.rfl
theorem kLc_eq : kLc vs g t m P e ds ↔ unlocked e vs = true ∧ Wp (lcLoop g t m vs ds (wipeE e vs) []) (kLcE vs e P) := Iff.rfl
theorem kLcE_eq : kLcE vs e P (e', acc) ↔ P (backE e e' vs) (.own (.list acc)) := Iff.rfl
def kLcF (vs : List Nat) (J : MEnv → List PyData → Prop) (acc : List PyData) (e : MEnv) (d : PyData) : Prop := J (wipeE e vs) (acc ++ [d])
def kLcR (vs : List Nat) (J : MEnv → List PyData → Prop) (acc : List PyData) (e : MEnv) (r : RV) : Prop := WF r e (kLcF vs J acc)
def kLcB (vs : List Nat) (m : ME) (J : MEnv → List PyData → Prop) (acc : List PyData) (e : MEnv) (b : Bool) : Prop := if b = true then WE m e (kLcR vs J acc) else J (wipeE e vs) acc
def kLcT (vs : List Nat) (t : MT) (m : ME) (J : MEnv → List PyData → Prop) (acc : List PyData) (e : MEnv) : Prop := WT t e (kLcB vs m J acc)
theorem kLcF_eq : kLcF vs J acc e d ↔ J (wipeE e vs) (acc ++ [d]) := Iff.rfl
theorem kLcR_eq : kLcR vs J acc e r ↔ WF r e (kLcF vs J acc) := Iff.rfl
theorem kLcT_eq : kLcT vs t m J acc e ↔ WT t e (kLcB vs m J acc) := Iff.rfl
theorem kLcB_t : kLcB vs m J acc e true ↔ WE m e (kLcR vs J acc) := by simp [kLcB]
theorem kLcB_f : kLcB vs m J acc e false ↔ J (wipeE e vs) acc := by simp [kLcB]
theorem kLcB_i (h : b = true → WE m e (kLcR vs J acc)) (h' : b = false → J (wipeE e vs) acc) : kLcB vs m J acc e b := by
  cases b with
  | true => exact kLcB_t.mpr (h rfl)
  | false => exact kLcB_f.mpr (h' rfl)
theorem wt_yes {Pt : MEnv → Bool → Prop} : WT mYes e Pt ↔ Pt e true := wp_some
/-- one turn -/
theorem wlc_cons {Q : MEnv × List PyData → Prop} : Wp (lcLoop g t m vs (d :: ds) e acc) Q ↔ WG g d e (kLcT vs t m (fun e1 a1 => (acc.length < a1.length → acc.length < lineN) ∧ Wp (lcLoop g t m vs ds e1 a1) Q) acc) := by
  simp only [lcLoop, WG, wp_bind]
  refine ⟨fun h => Wp.imp h fun x h => Wp.imp h fun y h => ?_, fun h => Wp.imp h fun x h => Wp.imp h fun y h => ?_⟩
  · unfold kLcB
    split
    · rename_i hy
      rw [if_pos hy] at h
      refine Wp.imp (wp_bind.mp h) fun z h => Wp.imp (wp_bind.mp h) fun w h => ?_
      have h := wp_guard.mp h
      exact ⟨fun _ => h.1, h.2⟩
    · rename_i hy
      rw [if_neg hy] at h
      exact ⟨fun z => (Nat.lt_irrefl _ z).elim, h⟩
  · unfold kLcB at h
    split
    · rename_i hy
      rw [if_pos hy] at h
      refine wp_bind.mpr (Wp.imp h fun z h => wp_bind.mpr (Wp.imp h fun w h => ?_))
      exact wp_guard.mpr ⟨h.1 (by simp), h.2⟩
    · rename_i hy
      rw [if_neg hy] at h
      exact h.2
/-- a walk by an invariant: of the number of turns, the slots, what is gathered -/
theorem wlc (J : Nat → MEnv → List PyData → Prop) {Q : MEnv × List PyData → Prop} (hl : ds.length ≤ lineN) (h0 : J 0 e []) (hs : ∀ i d, ds[i]? = some d → ∀ e acc, J i e acc → acc.length ≤ i → WG g d e (kLcT vs t m (J (i + 1)) acc)) (hn : ∀ e acc, J ds.length e acc → acc.length ≤ ds.length → Q (e, acc)) :
    Wp (lcLoop g t m vs ds e []) Q := by
  suffices h : ∀ (ds' : List PyData) (k : Nat) (e : MEnv) (acc : List PyData), ds.drop k = ds' → k ≤ ds.length → J k e acc → acc.length ≤ k → Wp (lcLoop g t m vs ds' e acc) Q from h ds 0 e [] rfl (Nat.zero_le _) h0 (Nat.le_refl _)
  intro ds'
  induction ds' with
  | nil =>
    intro k e acc hd hk hj hl
    have : k = ds.length := Nat.le_antisymm hk (by
      have := congrArg List.length hd
      simp at this; omega)
    subst this
    exact wp_some.mpr (hn e acc hj hl)
  | cons d ds' ih =>
    intro k e acc hd hk hj hl'
    have hd0 : ds[k]? = some d := by
      have := congrArg (fun l => l[0]?) hd
      simpa using this
    have hk' : k < ds.length := (List.getElem?_eq_some_iff.mp hd0).1
    have hd1 : ds.drop (k + 1) = ds' := by
      rw [← List.tail_drop, hd]; rfl
    rw [wlc_cons]
    have h1 := hs k d hd0 e acc hj hl'
    have mono : ∀ (e1 : MEnv) (a1 : List PyData), a1.length ≤ acc.length + 1 → J (k + 1) e1 a1 → (acc.length < a1.length → acc.length < lineN) ∧ Wp (lcLoop g t m vs ds' e1 a1) Q := fun e1 a1 hl1 hj1 => ⟨fun _ => by omega, ih (k + 1) e1 a1 hd1 (by omega) hj1 (by omega)⟩
    refine Wp.imp h1 fun e1 h1 => Wp.imp h1 fun p h1 => ?_
    unfold kLcB at h1 ⊢
    split
    · rename_i hp
      rw [if_pos hp] at h1
      exact Wp.imp h1 fun q h1 => Wp.imp h1 fun s h1 => mono _ _ (by simp) h1
    · rename_i hp
      rw [if_neg hp] at h1
      exact mono _ _ (by omega) h1
/-- .. where each turn gathers one thing and R holds of it -/
theorem wlc_all (I : MEnv → Prop) (R : PyData → Prop) {Q : MEnv × List PyData → Prop} (hl : ds.length ≤ lineN) (h0 : I e) (hs : ∀ d, d ∈ ds → ∀ e acc, I e → WG g d e (kLcT vs t m (fun e1 a1 => I e1 ∧ ∃ x, a1 = acc ++ [x] ∧ R x) acc)) (hn : ∀ e acc, I e → acc.length = ds.length → (∀ x ∈ acc, R x) → Q (e, acc)) :
    Wp (lcLoop g t m vs ds e []) Q := by
  refine wlc (fun i e acc => I e ∧ acc.length = i ∧ ∀ x ∈ acc, R x) hl ⟨h0, rfl, fun x h => by cases h⟩ (fun i d hd e acc hj _ => ?_) fun e acc hj _ => hn e acc hj.1 hj.2.1 hj.2.2
  have h1 := hs d (List.mem_of_getElem? hd) e acc hj.1
  refine Wp.imp h1 fun e1 h1 => Wp.imp h1 fun p h1 => ?_
  have fin : ∀ (e1 : MEnv) (a1 : List PyData), (I e1 ∧ ∃ x, a1 = acc ++ [x] ∧ R x) → I e1 ∧ a1.length = i + 1 ∧ ∀ x ∈ a1, R x := fun e1 a1 ⟨h1, x, h2, h3⟩ => by
    subst h2
    refine ⟨h1, by simp [hj.2.1], fun y hy => ?_⟩
    rcases List.mem_append.mp hy with hy | hy
    · exact hj.2.2 y hy
    · rw [List.mem_singleton.mp hy]; exact h3
  unfold kLcB at h1 ⊢
  split
  · rename_i hp
    rw [if_pos hp] at h1
    exact Wp.imp h1 fun q h1 => Wp.imp h1 fun s h1 => fin _ _ h1
  · rename_i hp
    rw [if_neg hp] at h1
    exact fin _ _ h1
/-- .. what each turn gathers is a function of the thing, and the slots stay -/
theorem wlc_map (f : PyData → PyData) {Q : MEnv × List PyData → Prop} (hl : ds.length ≤ lineN) (hs : ∀ d, d ∈ ds → ∀ acc, WG g d e (kLcT vs t m (fun e1 a1 => e1 = e ∧ a1 = acc ++ [f d]) acc)) (hn : Q (e, ds.map f)) :
    Wp (lcLoop g t m vs ds e []) Q := by
  refine wlc (fun i e1 acc => e1 = e ∧ acc = (ds.take i).map f) hl ⟨rfl, by simp⟩ (fun i d hd e1 acc hj _ => ?_) fun e1 acc hj _ => ?_
  · obtain ⟨rfl, ha⟩ := hj
    have h1 := hs d (List.mem_of_getElem? hd) acc
    have e2 : (ds.take (i + 1)).map f = acc ++ [f d] := by
      rw [List.take_add_one, hd, List.map_append, ← ha]
      rfl
    rw [e2]
    exact h1
  · obtain ⟨rfl, ha⟩ := hj
    rw [List.take_length] at ha
    subst ha
    exact hn
end

/-! ### statements -/
section
variable {e : MEnv} {i j n : Nat} {d : PyData} {ds : List PyData} {x : SV} {r : RV} {b : Bool} {P : Out → Prop} {m mi me : ME} {g : MG} {a c body : MS} {t : MT} {it : MI} {o : Out}
theorem ws_skip : WS sSkip e P ↔ P (.nx e) := wp_some
def kSeq (b : MS) (P : Out → Prop) : Out → Prop
  | .nx e => WS b e P
  | o => P o
theorem ws_seq : WS (sSeq a c) e P ↔ WS a e (kSeq c P) := by
  simp only [WS, sSeq, wp_bind]
  refine ⟨fun h => h.imp fun o h => ?_, fun h => h.imp fun o h => ?_⟩
  · cases o <;> first | exact h | exact (wp_some.mp h :)
  · cases o <;> first | exact h | exact wp_some.mpr h
theorem kSeq_nx : kSeq c P (.nx e) ↔ WS c e P := Iff.rfl
theorem kSeq_rt : kSeq c P (.rt r e) ↔ P (.rt r e) := Iff.rfl
theorem kSeq_bk : kSeq c P (.bk e) ↔ P (.bk e) := Iff.rfl
theorem kSeq_ct : kSeq c P (.ct e) ↔ P (.ct e) := Iff.rfl
def kExpr (P : Out → Prop) (e : MEnv) (r : RV) : Prop := P (.nx e)
theorem ws_expr : WS (sExpr m) e P ↔ WE m e (kExpr P) := by
  simp only [WS, WE, sExpr, wp_bind, wp_some]
  try exact Iff.rfl
theorem kExpr_eq : kExpr P e r ↔ P (.nx e) := Iff.rfl
def kSetP (i j : Nat) (P : Out → Prop) (e : MEnv) (y : SV) : Prop := Wp y.view fun d => P (.nx ((e.set j y.freeze).set i (.fz d)))
def kSetV (i : Nat) (P : Out → Prop) (e : MEnv) : RV → Prop
  | .fz d => P (.nx (e.set i (.fz d)))
  | .own d => P (.nx (e.set i (.own d)))
  | .plc j => WX e j (kSetP i j P e)
def kSetL (i : Nat) (P : Out → Prop) (e : MEnv) (r : RV) (x : SV) : Prop := x.lock = false ∧ kSetV i P e r
def kSet (i : Nat) (P : Out → Prop) (e : MEnv) (r : RV) : Prop := WX e i (kSetL i P e r)
theorem ws_set : WS (sSet i m) e P ↔ WE m e (kSet i P) := by
  simp only [WS, WE, sSet, kSet, WX, kSetL, wp_bind]
  refine ⟨fun h => h.imp fun p h => h.imp fun x h => ?_, fun h => h.imp fun p h => h.imp fun x h => ?_⟩
  · by_cases hl : x.lock = true
    · rw [if_pos hl] at h; exact (wp_none.mp h).elim
    · rw [if_neg hl] at h
      refine ⟨not_true.mp hl, ?_⟩
      obtain ⟨p1, p2⟩ := p
      cases p2 with
      | fz d => exact (wp_some.mp h :)
      | own d => exact (wp_some.mp h :)
      | plc j =>
        have h := wp_bind.mp h
        exact h.imp fun y h => Wp.imp (wp_bind.mp h) fun d h => (wp_some.mp h :)
  · rw [if_neg (not_true.mpr h.1)]
    obtain ⟨p1, p2⟩ := p
    cases p2 with
    | fz d => exact wp_some.mpr h.2
    | own d => exact wp_some.mpr h.2
    | plc j => exact wp_bind.mpr (Wp.imp h.2 fun y h => wp_bind.mpr (Wp.imp h fun d h => wp_some.mpr h))
theorem kSet_eq : kSet i P e r ↔ WX e i (kSetL i P e r) := Iff.rfl
theorem kSetL_eq : kSetL i P e r x ↔ x.lock = false ∧ kSetV i P e r := Iff.rfl
theorem kSetV_fz : kSetV i P e (.fz d) ↔ P (.nx (e.set i (.fz d))) := Iff.rfl
theorem kSetV_own : kSetV i P e (.own d) ↔ P (.nx (e.set i (.own d))) := Iff.rfl
theorem kSetV_plc : kSetV i P e (.plc j) ↔ WX e j (kSetP i j P e) := Iff.rfl
theorem kSetP_own : kSetP i j P e (.own d) ↔ P (.nx ((e.set j (.fz d)).set i (.fz d))) := wp_some
theorem kSetP_ref : kSetP i j P e (.ref d) ↔ P (.nx ((e.set j (.rfz d)).set i (.fz d))) := wp_some
theorem kSetP_fz : kSetP i j P e (.fz d) ↔ P (.nx ((e.set j (.fz d)).set i (.fz d))) := wp_some
def kAsgB (P : Out → Prop) (e : MEnv) : Prop := P (.nx e)
def kAsg (g : MG) (P : Out → Prop) (e : MEnv) : RV → Prop
  | .fz d => WG g d e (kAsgB P)
  | _ => False
theorem ws_asg : WS (sAsg g m) e P ↔ WE m e (kAsg g P) := by
  simp only [WS, WE, sAsg, wp_bind]
  refine ⟨fun h => h.imp fun p h => ?_, fun h => h.imp fun p h => ?_⟩
  · obtain ⟨p1, p2⟩ := p
    cases p2 with
    | fz d => exact Wp.imp (wp_bind.mp h) fun y h => (wp_some.mp h :)
    | own d => exact (wp_none.mp h).elim
    | plc j => exact (wp_none.mp h).elim
  · obtain ⟨p1, p2⟩ := p
    cases p2 with
    | fz d => exact wp_bind.mpr (Wp.imp h fun y h => wp_some.mpr h)
    | own d => exact h.elim
    | plc j => exact h.elim
theorem kAsg_fz : kAsg g P e (.fz d) ↔ WG g d e (kAsgB P) := Iff.rfl
theorem kAsgB_eq : kAsgB P e ↔ P (.nx e) := Iff.rfl
def kRetP (i : Nat) (P : Out → Prop) (e : MEnv) : SV → Prop
  | .own d => P (.rt (.own d) (e.set i .unb))
  | .ref d => P (.rt (.fz d) (e.set i (.rfz d)))
  | .fz d => P (.rt (.fz d) (e.set i (.fz d)))
  | .rfz d => P (.rt (.fz d) (e.set i (.rfz d)))
  | .unb => False
def kRet (P : Out → Prop) (e : MEnv) : RV → Prop
  | .fz d => P (.rt (.fz d) e)
  | .own d => P (.rt (.own d) e)
  | .plc i => WX e i (kRetP i P e)
theorem ws_ret : WS (sRet m) e P ↔ WE m e (kRet P) := by
  simp only [WS, WE, sRet, wp_bind]
  refine ⟨fun h => h.imp fun p h => ?_, fun h => h.imp fun p h => ?_⟩
  · obtain ⟨p1, p2⟩ := p
    cases p2 with
    | fz d => exact (wp_some.mp h :)
    | own d => exact (wp_some.mp h :)
    | plc i =>
      refine (wp_bind.mp h).imp fun x h => ?_
      cases x with
      | own d => exact (wp_some.mp h :)
      | ref d => exact ((wp_some.mp ((wp_some.mp (wp_bind.mp h :) :)) :))
      | fz d => exact ((wp_some.mp ((wp_some.mp (wp_bind.mp h :) :)) :))
      | rfz d => exact ((wp_some.mp ((wp_some.mp (wp_bind.mp h :) :)) :))
      | unb => exact (wp_none.mp (wp_bind.mp h)).elim
  · obtain ⟨p1, p2⟩ := p
    cases p2 with
    | fz d => exact wp_some.mpr h
    | own d => exact wp_some.mpr h
    | plc i =>
      refine wp_bind.mpr (Wp.imp h fun x h => ?_)
      cases x with
      | own d => exact wp_some.mpr h
      | ref d => exact wp_bind.mpr (wp_some.mpr (wp_some.mpr h))
      | fz d => exact wp_bind.mpr (wp_some.mpr (wp_some.mpr h))
      | rfz d => exact wp_bind.mpr (wp_some.mpr (wp_some.mpr h))
      | unb => exact h.elim
theorem kRet_fz : kRet P e (.fz d) ↔ P (.rt (.fz d) e) := Iff.rfl
theorem kRet_own : kRet P e (.own d) ↔ P (.rt (.own d) e) := Iff.rfl
theorem kRet_plc : kRet P e (.plc i) ↔ WX e i (kRetP i P e) := Iff.rfl
theorem kRetP_own : kRetP i P e (.own d) ↔ P (.rt (.own d) (e.set i .unb)) := Iff.rfl
theorem kRetP_ref : kRetP i P e (.ref d) ↔ P (.rt (.fz d) (e.set i (.rfz d))) := Iff.rfl
theorem ws_retN : WS sRetN e P ↔ P (.rt (.fz .none) e) := wp_some
def kIf (a c : MS) (P : Out → Prop) (e : MEnv) (b : Bool) : Prop := if b = true then WS a e P else WS c e P
theorem ws_if : WS (sIf t a c) e P ↔ WT t e (kIf a c P) := by
  simp only [WS, WT, sIf, wp_bind, wp_ite']
  try exact Iff.rfl
theorem kIf_t : kIf a c P e true ↔ WS a e P := by simp [kIf]
theorem kIf_f : kIf a c P e false ↔ WS c e P := by simp [kIf]
theorem kIf_i (h : b = true → WS a e P) (h' : b = false → WS c e P) : kIf a c P e b := by
  cases b with
  | true => exact kIf_t.mpr (h rfl)
  | false => exact kIf_f.mpr (h' rfl)
theorem ws_brk : WS sBrk e P ↔ P (.bk e) := wp_some
theorem ws_cnt : WS sCnt e P ↔ P (.ct e) := wp_some
/-- loops -/
def kFor (g : MG) (body : MS) (P : Out → Prop) (e : MEnv) (ds : List PyData) : Prop := Wp (forLoop g body ds e) P
theorem ws_for : WS (sFor g it body) e P ↔ WI it e (kFor g body P) := wp_bind
theorem kFor_eq : kFor g body P e ds ↔ Wp (forLoop g body ds e) P := Iff.rfl
def kLoop (I : MEnv → Prop) (P : Out → Prop) : Out → Prop
  | .nx e => I e
  | .ct e => I e
  | .bk e => P (.nx e)
  | .rt r e => P (.rt r e)
theorem kLoop_nx {I : MEnv → Prop} : kLoop I P (.nx e) ↔ I e := Iff.rfl
theorem kLoop_ct {I : MEnv → Prop} : kLoop I P (.ct e) ↔ I e := Iff.rfl
theorem kLoop_bk {I : MEnv → Prop} : kLoop I P (.bk e) ↔ P (.nx e) := Iff.rfl
theorem kLoop_rt {I : MEnv → Prop} : kLoop I P (.rt r e) ↔ P (.rt r e) := Iff.rfl
def kBody (body : MS) (P : Out → Prop) (e : MEnv) : Prop := WS body e P
theorem kBody_eq : kBody body P e ↔ WS body e P := Iff.rfl
theorem wfor_nil : Wp (forLoop g body [] e) P ↔ P (.nx e) := wp_some
theorem wfor_cons : Wp (forLoop g body (d :: ds) e) P ↔ WG g d e (kBody body (kLoop (fun e => Wp (forLoop g body ds e) P) P)) := by
  simp only [WG, WS, kBody, forLoop, wp_bind]
  refine ⟨fun h => h.imp fun e h => h.imp fun o h => ?_, fun h => h.imp fun e h => h.imp fun o h => ?_⟩
  · cases o <;> first | exact h | exact (wp_some.mp h :)
  · cases o <;> first | exact h | exact wp_some.mpr h
theorem kLoop.imp {I J : MEnv → Prop} (i : ∀ e, I e → J e) (h : kLoop I P o) : kLoop J P o := by
  cases o with
  | nx e => exact i e h
  | ct e => exact i e h
  | bk e => exact h
  | rt r e => exact h
/-- by an invariant of the number of turns -/
theorem wfor (I : Nat → MEnv → Prop) (h0 : I 0 e) (hs : ∀ i d, ds[i]? = some d → ∀ e, I i e → WG g d e (kBody body (kLoop (I (i + 1)) P))) (hn : ∀ e, I ds.length e → P (.nx e)) : Wp (forLoop g body ds e) P := by
  suffices h : ∀ (ds' : List PyData) (k : Nat) (e : MEnv), ds.drop k = ds' → k ≤ ds.length → I k e → Wp (forLoop g body ds' e) P from h ds 0 e rfl (Nat.zero_le _) h0
  intro ds'
  induction ds' with
  | nil =>
    intro k e hd hk hj
    have : k = ds.length := Nat.le_antisymm hk (by
      have := congrArg List.length hd
      simp at this; omega)
    subst this
    exact wp_some.mpr (hn e hj)
  | cons d ds' ih =>
    intro k e hd hk hj
    have hd0 : ds[k]? = some d := by
      have := congrArg (fun l => l[0]?) hd
      simpa using this
    have hk' : k < ds.length := (List.getElem?_eq_some_iff.mp hd0).1
    have hd1 : ds.drop (k + 1) = ds' := by
      rw [← List.tail_drop, hd]; rfl
    rw [wfor_cons]
    refine Wp.imp (hs k d hd0 e hj) fun e1 h1 => Wp.imp h1 fun o h1 => kLoop.imp (fun e2 h2 => ih (k + 1) e2 hd1 (by omega) h2) h1
/-- .. of no number -/
theorem wfor_all (I : MEnv → Prop) (h0 : I e) (hs : ∀ d, d ∈ ds → ∀ e, I e → WG g d e (kBody body (kLoop I P))) (hn : ∀ e, I e → P (.nx e)) : Wp (forLoop g body ds e) P :=
  wfor (fun _ => I) h0 (fun i d hd e h => hs d (List.mem_of_getElem? hd) e h) hn
/-- stores -/
def WL (e : MEnv) (i : Nat) (P : SV × List PyData → Prop) : Prop := Wp (ownL e i) P
def kOwnL (P : SV × List PyData → Prop) : SV → Prop
  | .own (.list ds) => P (.own (.list ds), ds)
  | .ref (.list ds) => P (.ref (.list ds), ds)
  | _ => False
theorem wl_eq {Q : SV × List PyData → Prop} : WL e i Q ↔ WX e i (kOwnL Q) := by
  unfold WL WX ownL
  rw [wp_bind]
  refine ⟨fun h => h.imp fun x h => ?_, fun h => h.imp fun x h => ?_⟩
  · cases x with
    | own d => cases d <;> first | exact (wp_some.mp h :) | exact (wp_none.mp h).elim
    | ref d => cases d <;> first | exact (wp_some.mp h :) | exact (wp_none.mp h).elim
    | _ => exact (wp_none.mp h).elim
  · cases x with
    | own d => cases d <;> first | exact wp_some.mpr h | exact h.elim
    | ref d => cases d <;> first | exact wp_some.mpr h | exact h.elim
    | _ => exact h.elim
theorem kOwnL_own {Q : SV × List PyData → Prop} : kOwnL Q (.own (.list ds)) ↔ Q (.own (.list ds), ds) := Iff.rfl
theorem kOwnL_ref {Q : SV × List PyData → Prop} : kOwnL Q (.ref (.list ds)) ↔ Q (.ref (.list ds), ds) := Iff.rfl
def kSI5 (o : Nat) (i : Int) (d : PyData) (P : Out → Prop) (e : MEnv) (w : SV × List PyData) : Prop := ∃ j, ixN w.2.length i = some j ∧ P (.nx (e.set o (w.1.put (.list (w.2.set j d)))))
def kSI4 (o : Nat) (i : Int) (P : Out → Prop) (e : MEnv) (d : PyData) : Prop := WL e o (kSI5 o i d P e)
def kSI3 (o : Nat) (r : RV) (P : Out → Prop) (e : MEnv) : RV → Prop
  | .fz (.int i) => WF r e (kSI4 o i P)
  | _ => False
def kSI2 (o : Nat) (mi : ME) (r : RV) (P : Out → Prop) (e : MEnv) (w : SV × List PyData) : Prop := WE mi e (kSI3 o r P)
def kSI1 (o : Nat) (mi : ME) (P : Out → Prop) (e : MEnv) (r : RV) : Prop := WL e o (kSI2 o mi r P e)
theorem ws_setIx {o : Nat} : WS (sSetIx o mi me) e P ↔ WE me e (kSI1 o mi P) := by
  simp only [WS, WE, WL, sSetIx, kSI1, kSI2, wp_bind]
  refine ⟨fun h => h.imp fun p h => h.imp fun w h => ?_, fun h => h.imp fun p h => h.imp fun w h => ?_⟩
  · refine h.imp fun q h => ?_
    obtain ⟨i, hi, h⟩ := h
    rw [intOf_some hi]
    refine Wp.imp h fun s h => h.imp fun w h => ?_
    obtain ⟨j, hj, h⟩ := h
    exact ⟨j, hj, (wp_some.mp h :)⟩
  · refine Wp.imp h fun q h => ?_
    unfold kSI3 at h
    split at h
    · rename_i hq
      refine ⟨_, by rw [hq]; rfl, Wp.imp h fun s h => Wp.imp h fun w h => ?_⟩
      obtain ⟨j, hj, h⟩ := h
      exact ⟨j, hj, wp_some.mpr h⟩
    · exact h.elim
theorem kSI1_eq {o : Nat} : kSI1 o mi P e r ↔ WL e o (kSI2 o mi r P e) := Iff.rfl
theorem kSI2_eq {o : Nat} {w : SV × List PyData} : kSI2 o mi r P e w ↔ WE mi e (kSI3 o r P) := Iff.rfl
theorem kSI3_eq {o : Nat} {i : Int} : kSI3 o r P e (.fz (.int i)) ↔ WF r e (kSI4 o i P) := Iff.rfl
theorem kSI4_eq {o : Nat} {i : Int} : kSI4 o i P e d ↔ WL e o (kSI5 o i d P e) := Iff.rfl
theorem kSI5_eq {o : Nat} {i : Int} {x : SV} : kSI5 o i d P e (x, ds) ↔ Wp (ixN ds.length i) fun j => P (.nx (e.set o (x.put (.list (ds.set j d))))) := Iff.rfl
variable {Pe : MEnv → RV → Prop}
def kAp3 (o : Nat) (d : PyData) (P : MEnv → RV → Prop) (e : MEnv) (w : SV × List PyData) : Prop := w.2.length < lineN ∧ P (e.set o (w.1.put (.list (w.2 ++ [d])))) (.fz .none)
def kAp2 (o : Nat) (P : MEnv → RV → Prop) (e : MEnv) (d : PyData) : Prop := WL e o (kAp3 o d P e)
def kAp1 (o : Nat) (P : MEnv → RV → Prop) (e : MEnv) (r : RV) : Prop := WF r e (kAp2 o P)
def kAp0 (o : Nat) (me : ME) (P : MEnv → RV → Prop) (e : MEnv) (w : SV × List PyData) : Prop := WE me e (kAp1 o P)
theorem we_app {o : Nat} : WE (eApp o me) e Pe ↔ WL e o (kAp0 o me Pe e) := by
  simp only [WE, WL, WF, eApp, wp_bind, wp_guard, wp_some]
  exact Iff.rfl
theorem kAp0_eq {o : Nat} {w : SV × List PyData} : kAp0 o me Pe e w ↔ WE me e (kAp1 o Pe) := Iff.rfl
theorem kAp1_eq {o : Nat} : kAp1 o Pe e r ↔ WF r e (kAp2 o Pe) := Iff.rfl
theorem kAp2_eq {o : Nat} : kAp2 o Pe e d ↔ WL e o (kAp3 o d Pe e) := Iff.rfl
theorem kAp3_eq {o : Nat} {x : SV} : kAp3 o d Pe e (x, ds) ↔ ds.length < lineN ∧ Pe (e.set o (x.put (.list (ds ++ [d])))) (.fz .none) := Iff.rfl
end

/-! ### defs -/
section
variable {e e' : MEnv} {as bs : List SV} {x y : SV} {d d' : PyData} {r : RV} {rs : List RV} {i n l : Nat} {C : CF} {ms : MA} {body : MS} {P : MEnv → RV → Prop} {Pc : List SV → RV → Prop}
def kUsr3 (rs : List RV) (e : MEnv) (P : MEnv → RV → Prop) (bs : List SV) : RV → Prop
  | .plc _ => False
  | r => P (backSVs rs bs 0 e) r
def kUsr2 (rs : List RV) (e : MEnv) (P : MEnv → RV → Prop) (bs : List SV) (r : RV) : Prop := bs.all SV.plain = true ∧ kUsr3 rs e P bs r
def kUsr1 (C : CF) (rs : List RV) (e : MEnv) (P : MEnv → RV → Prop) (as : List SV) : Prop := (apart rs = true ∧ as.all SV.plain = true) ∧ WC C as (kUsr2 rs e P)
def kUsr (C : CF) (P : MEnv → RV → Prop) (e : MEnv) (rs : List RV) : Prop := Wp (argSVs e rs) (kUsr1 C rs e P)
theorem we_user : WE (eUser C ms) e P ↔ WA ms e (kUsr C P) := by
  simp only [WE, WA, WC, eUser, wp_bind, wp_guard]
  refine ⟨fun h => Wp.imp h fun p h => Wp.imp h fun q h => ⟨h.1, Wp.imp h.2 fun s h => ⟨h.1, ?_⟩⟩, fun h => Wp.imp h fun p h => Wp.imp h fun q h => ⟨h.1, Wp.imp h.2 fun s h => ⟨h.1, ?_⟩⟩⟩
  · have h := h.2
    obtain ⟨s1, s2⟩ := s
    cases s2 with
    | fz d => exact (wp_some.mp h :)
    | own d => exact (wp_some.mp h :)
    | plc i => exact (wp_none.mp h).elim
  · have h := h.2
    obtain ⟨s1, s2⟩ := s
    cases s2 with
    | fz d => exact wp_some.mpr h
    | own d => exact wp_some.mpr h
    | plc i => exact h.elim
theorem kUsr_eq : kUsr C P e rs ↔ Wp (argSVs e rs) (kUsr1 C rs e P) := Iff.rfl
theorem kUsr1_eq : kUsr1 C rs e P as ↔ (apart rs = true ∧ as.all SV.plain = true) ∧ WC C as (kUsr2 rs e P) := Iff.rfl
theorem kUsr2_eq : kUsr2 rs e P bs r ↔ bs.all SV.plain = true ∧ kUsr3 rs e P bs r := Iff.rfl
theorem kUsr3_fz : kUsr3 rs e P bs (.fz d) ↔ P (backSVs rs bs 0 e) (.fz d) := Iff.rfl
theorem kUsr3_own : kUsr3 rs e P bs (.own d) ↔ P (backSVs rs bs 0 e) (.own d) := Iff.rfl
/-- the arguments -/
def kArg2 (x : SV) (Q : List SV → Prop) (xs : List SV) : Prop := Q (x :: xs)
def kArg1 (rs : List RV) (e : MEnv) (Q : List SV → Prop) (x : SV) : Prop := Wp (argSVs e rs) (kArg2 x Q)
def kArgP (rs : List RV) (e : MEnv) (Q : List SV → Prop) : SV → Prop
  | .own d => kArg1 rs e Q (.own d)
  | .ref d => kArg1 rs e Q (.own d)
  | .fz d => kArg1 rs e Q (.fz d)
  | .rfz d => kArg1 rs e Q (.fz d)
  | .unb => False
theorem warg_nil {Q : List SV → Prop} : Wp (argSVs e []) Q ↔ Q [] := wp_some
theorem warg_fz {Q : List SV → Prop} : Wp (argSVs e (.fz d :: rs)) Q ↔ kArg1 rs e Q (.fz d) := by
  simp only [argSVs, argSV, wp_bind, wp_some]
  exact Iff.rfl
theorem warg_own {Q : List SV → Prop} : Wp (argSVs e (.own d :: rs)) Q ↔ kArg1 rs e Q (.own d) := by
  simp only [argSVs, argSV, wp_bind, wp_some]
  exact Iff.rfl
theorem warg_plc {Q : List SV → Prop} : Wp (argSVs e (.plc i :: rs)) Q ↔ WX e i (kArgP rs e Q) := by
  simp only [argSVs, argSV, WX, wp_bind]
  refine ⟨fun h => h.imp fun x h => ?_, fun h => h.imp fun x h => ?_⟩
  · cases x <;> first | exact (wp_none.mp h).elim | exact ((wp_some.mp h :)).imp fun y h => (wp_some.mp h :)
  · cases x <;> first | exact h.elim | exact wp_some.mpr (Wp.imp h fun y h => wp_some.mpr h)
theorem kArg1_eq {Q : List SV → Prop} : kArg1 rs e Q x ↔ Wp (argSVs e rs) (kArg2 x Q) := Iff.rfl
theorem kArg2_eq {Q : List SV → Prop} : kArg2 x Q as ↔ Q (x :: as) := Iff.rfl
theorem kArgP_own {Q : List SV → Prop} : kArgP rs e Q (.own d) ↔ kArg1 rs e Q (.own d) := Iff.rfl
theorem kArgP_ref {Q : List SV → Prop} : kArgP rs e Q (.ref d) ↔ kArg1 rs e Q (.own d) := Iff.rfl
theorem kArgP_fz {Q : List SV → Prop} : kArgP rs e Q (.fz d) ↔ kArg1 rs e Q (.fz d) := Iff.rfl
theorem kArgP_rfz {Q : List SV → Prop} : kArgP rs e Q (.rfz d) ↔ kArg1 rs e Q (.fz d) := Iff.rfl
/-- a def's own run -/
def kRunR (Pc : List SV → RV → Prop) (r : RV) (bs : List SV) : Prop := match r with
  | .plc _ => False
  | r => Pc bs r
def kRun (as : List SV) (Pc : List SV → RV → Prop) : Out → Prop
  | .rt r e => Wp (exitAll as e) (kRunR Pc r)
  | .nx e => Wp (exitAll as e) (kRunR Pc (.fz .none))
  | _ => False
theorem wc_run : WC (runF n l body) as Pc ↔ (as.length = n ∧ as.all SV.plain = true ∧ n ≤ l) ∧ WS body (as.map SV.enter ++ List.replicate (l - n) SV.unb) (kRun as Pc) := by
  simp only [WC, WS, runF, wp_bind, wp_guard]
  refine ⟨fun h => ⟨h.1, h.2.imp fun o h => ?_⟩, fun h => ⟨h.1, h.2.imp fun o h => ?_⟩⟩
  · cases o with
    | nx e => exact (wp_bind.mp h).imp fun bs h => (wp_some.mp h :)
    | rt r e =>
      refine (wp_bind.mp h).imp fun bs h => ?_
      cases r with
      | fz d => exact (wp_some.mp h :)
      | own d => exact (wp_some.mp h :)
      | plc i => exact (wp_none.mp h).elim
    | bk e => exact (wp_none.mp h).elim
    | ct e => exact (wp_none.mp h).elim
  · cases o with
    | nx e => exact wp_bind.mpr (Wp.imp h fun bs h => wp_some.mpr h)
    | rt r e =>
      refine wp_bind.mpr (Wp.imp h fun bs h => ?_)
      cases r with
      | fz d => exact wp_some.mpr h
      | own d => exact wp_some.mpr h
      | plc i => exact h.elim
    | bk e => exact h.elim
    | ct e => exact h.elim
theorem kRun_rt : kRun as Pc (.rt r e) ↔ Wp (exitAll as e) (kRunR Pc r) := Iff.rfl
theorem kRun_nx : kRun as Pc (.nx e) ↔ Wp (exitAll as e) (kRunR Pc (.fz .none)) := Iff.rfl
theorem kRunR_fz : kRunR Pc (.fz d) bs ↔ Pc bs (.fz d) := Iff.rfl
theorem kRunR_own : kRunR Pc (.own d) bs ↔ Pc bs (.own d) := Iff.rfl
def kEx (x : SV) (Q : List SV → Prop) (zs : List SV) : Prop := Q (x :: zs)
theorem wex_nil {Q : List SV → Prop} : Wp (exitAll [] e) Q ↔ Q [] := by cases e <;> exact wp_some
theorem wex_fz {Q : List SV → Prop} : Wp (exitAll (.fz d :: as) (y :: e)) Q ↔ Wp (exitAll as e) (kEx (.fz d) Q) := by
  simp only [exitAll, SV.exit, wp_bind, wp_some]
  exact Iff.rfl
theorem wex_ref {Q : List SV → Prop} : Wp (exitAll (.own d :: as) (.ref d' :: e)) Q ↔ Wp (exitAll as e) (kEx (.own d') Q) := by
  simp only [exitAll, SV.exit, wp_bind, wp_some]
  exact Iff.rfl
theorem wex_rfz {Q : List SV → Prop} : Wp (exitAll (.own d :: as) (.rfz d' :: e)) Q ↔ Wp (exitAll as e) (kEx (.fz d') Q) := by
  simp only [exitAll, SV.exit, wp_bind, wp_some]
  exact Iff.rfl
theorem kEx_eq {Q : List SV → Prop} {zs : List SV} : kEx x Q zs ↔ Q (x :: zs) := Iff.rfl
end

/-! ### what is written back, slots -/
section
variable {rs : List RV} {bs : List SV} {x y : SV} {xs ys : List SV} {d d' : PyData} {i k : Nat}
theorem fzI_eq (i : Int) : fzI i = some (.fz (.int i)) := rfl
theorem fzB_eq (b : Bool) : fzB b = some (.fz (.bool b)) := rfl
theorem fzS_eq (x : Str) : fzS x = some (.fz (.str x)) := rfl
theorem backSVs_nil : backSVs rs bs k [] = [] := rfl
theorem backSVs_cons : backSVs rs bs k (x :: xs) = backAt rs bs k x :: backSVs rs bs (k + 1) xs := rfl
theorem lock_unb : SV.lock .unb = false := rfl
theorem lock_fz : SV.lock (.fz d) = false := rfl
theorem lock_own : SV.lock (.own d) = false := rfl
theorem plain_fz : SV.plain (.fz d) = true := rfl
theorem plain_own : SV.plain (.own d) = true := rfl
theorem enter_fz : SV.enter (.fz d) = .fz d := rfl
theorem enter_own : SV.enter (.own d) = .ref d := rfl
theorem put_ownE : SV.put d' (.own d) = .own d' := rfl
theorem put_refE : SV.put d' (.ref d) = .ref d' := rfl
theorem back_oo : SV.back (.own d) (.own d') = .own d' := rfl
theorem back_of : SV.back (.own d) (.fz d') = .fz d' := rfl
theorem back_ro : SV.back (.ref d) (.own d') = .ref d' := rfl
theorem back_rf : SV.back (.ref d) (.fz d') = .rfz d' := rfl
theorem back_fz : SV.back (.fz d) y = .fz d := by cases y <;> rfl
theorem back_rfz : SV.back (.rfz d) y = .rfz d := by cases y <;> rfl
theorem freeze_own : SV.freeze (.own d) = .fz d := rfl
theorem freeze_ref : SV.freeze (.ref d) = .rfz d := rfl
theorem freeze_fz : SV.freeze (.fz d) = .fz d := rfl
theorem backAt_eq : backAt rs bs k x = match findSV rs bs k with | some y => x.back y | none => x := rfl
theorem findSV_nil : findSV [] bs k = none := by cases bs <;> rfl
theorem findSV_nil2 {r : RV} : findSV (r :: rs) [] k = none := by cases r <;> rfl
theorem findSV_plc : findSV (.plc i :: rs) (y :: ys) k = if i = k then some y else findSV rs ys k := rfl
theorem findSV_fz : findSV (.fz d :: rs) (y :: ys) k = findSV rs ys k := rfl
theorem findSV_own : findSV (.own d :: rs) (y :: ys) k = findSV rs ys k := rfl
theorem apart_nil : apart [] = true := rfl
theorem apart_fz : apart (.fz d :: rs) = apart rs := rfl
theorem apart_own : apart (.own d :: rs) = apart rs := rfl
theorem apart_plc : apart (.plc i :: rs) = (!placed i rs && apart rs) := rfl
theorem placed_nil : placed k [] = false := rfl
theorem placed_fz : placed k (.fz d :: rs) = placed k rs := rfl
theorem placed_own : placed k (.own d :: rs) = placed k rs := rfl
theorem placed_plc : placed k (.plc i :: rs) = (decide (i = k) || placed k rs) := rfl
theorem wipeE_nil : wipeE xs [] = xs := rfl
theorem wipeE_cons {is : List Nat} : wipeE xs (i :: is) = (wipeE xs is).set i .unb := rfl
theorem backE_nil : backE ys xs [] = xs := rfl
theorem backE_cons {is : List Nat} : backE ys xs (i :: is) = (backE ys xs is).set i (ys.getD i .unb) := rfl
theorem unlocked_nil : unlocked xs [] = true := rfl
theorem unlocked_cons {is : List Nat} : unlocked xs (i :: is) = ((match xs[i]? with | some x => !x.lock | none => false) && unlocked xs is) := rfl
end
end L3

/-! L3Q: what operators say of data, row by row. -/
namespace L3
open PySem PySem.Spec PyProof.Rows L2
section
variable {i j : Int} {x y : Str} {b c : Bool} {d : PyData} {ds es : List PyData} {P : RV → Prop} {lo hi : Option Int}
theorem shaped_i : SeqAt.shaped (.int i) = true := rfl
theorem shaped_b : SeqAt.shaped (.bool b) = true := rfl
theorem shaped_n : SeqAt.shaped .none = true := rfl
theorem addD_i : addD (.int i) (.int j) = some (.fz (.int (i + j))) := rfl
theorem addD_s : addD (.str x) (.str y) = if x.length + y.length ≤ lineN then some (.fz (.str (x ++ y))) else none := rfl
theorem addD_l : addD (.list ds) (.list es) = if ds.length + es.length ≤ lineN then some (.own (.list (ds ++ es))) else none := rfl
theorem addD_t : addD (.tuple ds) (.tuple es) = if ds.length + es.length ≤ lineN then some (.fz (.tuple (ds ++ es))) else none := rfl
theorem subD_i : subD (.int i) (.int j) = some (.fz (.int (i - j))) := rfl
theorem mulSD_i : mulSD (.int i) (.int j) = if small64 i = true ∨ small64 j = true then some (.fz (.int (i * j))) else none := rfl
theorem mulSD_s : mulSD (.str x) (.int j) = if j = 1 then some (.fz (.str x)) else if 2 ≤ j ∧ j ≤ 1000 ∧ 1 ≤ x.length ∧ x.length ≤ 1000 then some (.fz (.str (repS x j.toNat))) else none := rfl
theorem divD_i : divD (.int i) (.int j) = if 0 < j ∧ j < 1073741824 then some (.fz (.int (i / j))) else none := rfl
theorem modD_i : modD (.int i) (.int j) = if 0 < j then some (.fz (.int (i % j))) else none := rfl
theorem powD_i : powD (.int i) (.int j) = if 0 ≤ j ∧ j ≤ 1000000 ∧ i.natAbs < 2 ^ 64 then some (.fz (.int (i ^ j.toNat))) else none := rfl
theorem negD_i : negD (.int i) = some (.fz (.int (-i))) := rfl
theorem ltD_i : ltD (.int i) (.int j) = some (.fz (.bool (decide (i < j)))) := rfl
theorem leD_i : leD (.int i) (.int j) = some (.fz (.bool (decide (i ≤ j)))) := rfl
theorem gtD_i : gtD (.int i) (.int j) = some (.fz (.bool (decide (j < i)))) := rfl
theorem geD_i : geD (.int i) (.int j) = some (.fz (.bool (decide (j ≤ i)))) := rfl
theorem cmpI_i {p : Int → Int → Bool} : cmpI p (.int i) (.int j) = some (.fz (.bool (p i j))) := rfl
theorem eqD_i : eqD (.int i) (.int j) = some (.fz (.bool (decide (i = j)))) := by
  show (if SeqAt.shaped (.int i) = true ∧ SeqAt.shaped (.int j) = true then fzB (i == j) else none) = _
  rw [if_pos ⟨rfl, rfl⟩]
  rfl
theorem neD_i : neD (.int i) (.int j) = some (.fz (.bool (!decide (i = j)))) := by
  show (if SeqAt.shaped (.int i) = true ∧ SeqAt.shaped (.int j) = true then fzB (!(i == j)) else none) = _
  rw [if_pos ⟨rfl, rfl⟩]
  rfl
theorem eqD_s : eqD (.str x) (.str y) = some (.fz (.bool (decide (x = y)))) := rfl
theorem neD_s : neD (.str x) (.str y) = some (.fz (.bool (!decide (x = y)))) := rfl
theorem eqD_sh {d e : PyData} (h : SeqAt.shaped d = true) (h' : SeqAt.shaped e = true) : eqD d e = some (.fz (.bool (PyData.eqv d e))) := by
  unfold eqD
  split
  · refine congrArg (fun b => some (RV.fz (.bool b))) ?_
    rw [PyData.eqv, Bool.eq_iff_iff]
    simp
  · rw [if_pos ⟨h, h'⟩]
    rfl
theorem neD_sh {d e : PyData} (h : SeqAt.shaped d = true) (h' : SeqAt.shaped e = true) : neD d e = some (.fz (.bool (!PyData.eqv d e))) := by
  unfold neD
  split
  · refine congrArg (fun b => some (RV.fz (.bool (!b)))) ?_
    rw [PyData.eqv, Bool.eq_iff_iff]
    simp
  · rw [if_pos ⟨h, h'⟩]
    rfl
theorem inD_l {d : PyData} (h : SeqAt.shaped d = true) (h' : SeqAt.shaped (.list ds) = true) : inD d (.list ds) = some (.fz (.bool (ds.any fun z => PyData.eqv z d))) := by
  unfold inD
  split
  · rename_i e
    cases e
  · rename_i e
    cases e
    rw [if_pos ⟨h, h'⟩]
    rfl
  · rename_i e
    cases e
  · rename_i n _ _
    exact (n _ rfl).elim
theorem notInD_l {d : PyData} (h : SeqAt.shaped d = true) (h' : SeqAt.shaped (.list ds) = true) : notInD d (.list ds) = some (.fz (.bool (!ds.any fun z => PyData.eqv z d))) := by
  unfold notInD
  split
  · rename_i e
    cases e
  · rename_i e
    cases e
    rw [if_pos ⟨h, h'⟩]
  · rename_i e
    cases e
  · rename_i n _ _
    exact (n _ rfl).elim
theorem eqD_b : eqD (.bool b) (.bool c) = some (.fz (.bool (b == c))) := by
  rw [eqD_sh rfl rfl]
  rfl
theorem neD_b : neD (.bool b) (.bool c) = some (.fz (.bool (!(b == c)))) := by
  rw [neD_sh rfl rfl]
  rfl
theorem isD_n {d : PyData} : isD d .none = some (.fz (.bool (isNone d))) := by cases d <;> rfl
theorem isD_b {d : PyData} : isD d (.bool c) = some (.fz (.bool (isBool c d))) := by cases d <;> rfl
theorem isNotD_n {d : PyData} : isNotD d .none = some (.fz (.bool (!isNone d))) := by cases d <;> rfl
theorem isNotD_b {d : PyData} : isNotD d (.bool c) = some (.fz (.bool (!isBool c d))) := by cases d <;> rfl
theorem isBool_b : isBool c (.bool b) = (b == c) := rfl
theorem isNone_n : isNone .none = true := rfl
theorem isNone_b : isNone (.bool b) = false := rfl
theorem isNone_i : isNone (.int i) = false := rfl
theorem isNone_s : isNone (.str x) = false := rfl
theorem isNone_l : isNone (.list ds) = false := rfl
theorem isNone_t : isNone (.tuple ds) = false := rfl
theorem isNone_d {kvs : List (PyData × PyData)} : isNone (.dict kvs) = false := rfl
theorem isi_eq {t : Ty} : isi t d = some (.fz (.bool (isiB t d))) := rfl
theorem isiAny_eq {ts : List Ty} : isiAny ts d = some (.fz (.bool (ts.any fun t => isiB t d))) := rfl
theorem ixD_l : ixD (.list ds) (.int i) = (atI ds i).bind fun d => some (.fz d) := rfl
theorem ixD_t : ixD (.tuple ds) (.int i) = (atI ds i).bind fun d => some (.fz d) := rfl
theorem ixD_s : ixD (.str x) (.int i) = if x.length ≤ lineN then (atI x.cps.toList i).bind fun c => some (.fz (.str ⟨#[c]⟩)) else none := rfl
theorem slD_l : slD (.list ds) lo hi = some (.own (.list (cutD ds lo hi))) := rfl
theorem slD_t : slD (.tuple ds) lo hi = some (.fz (.tuple (cutD ds lo hi))) := rfl
theorem slD_s : slD (.str x) lo hi = if x.length ≤ lineN then some (.fz (.str (cutS x lo hi))) else none := rfl
theorem lenD_s : lenD [.str x] = if x.length ≤ lineN then some (.fz (.int x.length)) else none := rfl
theorem lenD_l : lenD [.list ds] = some (.fz (.int ds.length)) := rfl
theorem lenD_t : lenD [.tuple ds] = some (.fz (.int ds.length)) := rfl
theorem absD_i : absD [.int i] = some (.fz (.int (if i < 0 then -i else i))) := rfl
theorem absD_n : absD [.int i] = some (.fz (.int i.natAbs)) := by
  rw [show ((i.natAbs : Nat) : Int) = if i < 0 then -i else i by split <;> omega]
  rfl
theorem maxD_m : maxD [.int i, .int j] = some (.fz (.int (max i j))) := by
  rw [show max i j = if j > i then j else i by split <;> omega]
  rfl
theorem minD_m : minD [.int i, .int j] = some (.fz (.int (min i j))) := by
  rw [show min i j = if j < i then j else i by split <;> omega]
  rfl
theorem maxD_i : maxD [.int i, .int j] = some (.fz (.int (if j > i then j else i))) := rfl
theorem minD_i : minD [.int i, .int j] = some (.fz (.int (if j < i then j else i))) := rfl
theorem intD_i : intD [.int i] = some (.fz (.int i)) := rfl
theorem intD_b : intD [.bool b] = some (.fz (.int (if b then 1 else 0))) := rfl
theorem strD_i : strD [.int i] = if i.natAbs.log2 < 1920 then some (.fz (.str (toString i))) else none := rfl
theorem listD_l : listD [.list ds] = some (.own (.list ds)) := rfl
theorem listD_t : listD [.tuple ds] = some (.own (.list ds)) := rfl
theorem listD_s : listD [.str x] = if x.length ≤ lineN then some (.own (.list (x.cps.toList.map fun c => .str ⟨#[c]⟩))) else none := rfl
theorem tupleD_l : tupleD [.list ds] = some (.fz (.tuple ds)) := rfl
theorem tupleD_t : tupleD [.tuple ds] = some (.fz (.tuple ds)) := rfl
theorem tupleD_s : tupleD [.str x] = if x.length ≤ lineN then some (.fz (.tuple (x.cps.toList.map fun c => .str ⟨#[c]⟩))) else none := rfl
theorem allD_l : allD [.list ds] = (boolsOf ds).bind fun bs => some (.fz (.bool (bs.all id))) := rfl
theorem anyD_l : anyD [.list ds] = (boolsOf ds).bind fun bs => some (.fz (.bool (bs.any id))) := rfl
theorem boolsOf_map : ∀ bs : List Bool, boolsOf (bs.map PyData.bool) = some bs
  | [] => rfl
  | b :: bs => by
    rw [List.map_cons, boolsOf, boolsOf_map bs]
    rfl
theorem strsOf_map : ∀ bs : List Str, strsOf (bs.map PyData.str) = some bs
  | [] => rfl
  | b :: bs => by
    rw [List.map_cons, strsOf, strsOf_map bs]
    rfl
theorem joinD_l : joinD x (.list ds) = (strsOf ds).bind fun ys => if (ys.map (·.length)).sum + ys.length * x.length ≤ lineN then some (.fz (.str (Txt.join x ys))) else none := rfl
theorem joinD_t : joinD x (.tuple ds) = (strsOf ds).bind fun ys => if (ys.map (·.length)).sum + ys.length * x.length ≤ lineN then some (.fz (.str (Txt.join x ys))) else none := rfl
theorem upperD_eq : upperD x = if x.length ≤ 5592405 then some (.fz (.str (Txt.upper x))) else none := rfl
/-- at a place -/
theorem ixN_nat {n k : Nat} (h : k < n) : ixN n (k : Int) = some k := by
  unfold ixN
  rw [if_pos (by omega), if_pos (by omega)]
  simp
theorem ixN_int {n : Nat} {i : Int} (h0 : 0 ≤ i) (h : i < n) : ixN n i = some i.toNat := by
  unfold ixN
  rw [if_pos h0, if_pos h]
theorem ixN_neg {n : Nat} {i : Int} (h0 : i < 0) (h : -(n : Int) ≤ i) : ixN n i = some (i + n).toNat := by
  unfold ixN
  rw [if_neg (by omega), if_pos h]
theorem atI_nat {α : Type} {xs : List α} {k : Nat} {a : α} (h : xs[k]? = some a) : atI xs (k : Int) = some a := by
  unfold atI
  rw [ixN_nat (List.getElem?_eq_some_iff.mp h).1]
  exact h
theorem atI_int {α : Type} {xs : List α} {i : Int} (h0 : 0 ≤ i) (h : i < xs.length) : ∃ a, xs[i.toNat]? = some a ∧ atI xs i = some a := by
  have h1 : i.toNat < xs.length := by omega
  refine ⟨xs[i.toNat], List.getElem?_eq_getElem h1, ?_⟩
  unfold atI
  rw [ixN_int h0 h]
  exact List.getElem?_eq_getElem h1
theorem wp_at {α : Type} {xs : List α} {i : Int} {Q : α → Prop} (h0 : 0 ≤ i) (h : i < xs.length) (k : ∀ a, xs[i.toNat]? = some a → Q a) : Wp (atI xs i) Q := by
  obtain ⟨a, e1, e2⟩ := atI_int h0 h
  exact ⟨a, e2, k a e1⟩
theorem atI_0 {α : Type} {x : α} {xs : List α} : atI (x :: xs) 0 = some x := atI_nat (k := 0) rfl
theorem atI_1 {α : Type} {x x1 : α} {xs : List α} : atI (x :: x1 :: xs) 1 = some x1 := atI_nat (k := 1) rfl
theorem atI_2 {α : Type} {x x1 x2 : α} {xs : List α} : atI (x :: x1 :: x2 :: xs) 2 = some x2 := atI_nat (k := 2) rfl
theorem atI_3 {α : Type} {x x1 x2 x3 : α} {xs : List α} : atI (x :: x1 :: x2 :: x3 :: xs) 3 = some x3 := atI_nat (k := 3) rfl
theorem atI_4 {α : Type} {x x1 x2 x3 x4 : α} {xs : List α} : atI (x :: x1 :: x2 :: x3 :: x4 :: xs) 4 = some x4 := atI_nat (k := 4) rfl
theorem ixN_0 {n : Nat} : ixN (n + 1) 0 = some 0 := ixN_nat (k := 0) (by omega)
theorem ixN_1 {n : Nat} : ixN (n + 1 + 1) 1 = some 1 := ixN_nat (k := 1) (by omega)
theorem ixN_2 {n : Nat} : ixN (n + 1 + 1 + 1) 2 = some 2 := ixN_nat (k := 2) (by omega)
end
theorem kDictb_s {P : MEnv → RV → Prop} {e : MEnv} {x : Str} {b : PyData} : kDictb P e [.str x, b] ↔ P e (.own (.dict [(.str x, b)])) :=
  ⟨fun ⟨kv, h, _, q⟩ => by cases h; exact q, fun h => kDictb_1 (k := .inr x) rfl h⟩
theorem kDictb_int {P : MEnv → RV → Prop} {e : MEnv} {x : Int} {b : PyData} : kDictb P e [.int x, b] ↔ P e (.own (.dict [(.int x, b)])) :=
  ⟨fun ⟨kv, h, _, q⟩ => by cases h; exact q, fun h => kDictb_1 (k := .inl x) rfl h⟩
theorem allD_m (bs : List Bool) : allD [.list (bs.map PyData.bool)] = some (.fz (.bool (bs.all id))) := by
  rw [allD_l, boolsOf_map]
  rfl
theorem anyD_m (bs : List Bool) : anyD [.list (bs.map PyData.bool)] = some (.fz (.bool (bs.any id))) := by
  rw [anyD_l, boolsOf_map]
  rfl
/-- a comprehension over what a list of other things stands for -/
theorem wlc_mapG {β : Type} {xs : List β} {g0 : β → PyData} (f : β → PyData) {g : MG} {t : MT} {m : ME} {vs : List Nat} {e : MEnv} {Q : MEnv × List PyData → Prop} (hl : xs.length ≤ lineN)
    (hs : ∀ x, x ∈ xs → ∀ acc, WG g (g0 x) e (kLcT vs t m (fun e1 a1 => e1 = e ∧ a1 = acc ++ [f x]) acc)) (hn : Q (e, xs.map f)) : Wp (lcLoop g t m vs (xs.map g0) e []) Q := by
  refine wlc (fun i e1 acc => e1 = e ∧ acc = (xs.take i).map f) (by rw [List.length_map]; exact hl) ⟨rfl, by simp⟩ (fun i d hd e1 acc hj _ => ?_) fun e1 acc hj _ => ?_
  · obtain ⟨rfl, ha⟩ := hj
    rw [List.getElem?_map] at hd
    obtain ⟨x, hx, rfl⟩ := Option.map_eq_some_iff.mp hd
    have h1 := hs x (List.mem_of_getElem? hx) acc
    have e2 : (xs.take (i + 1)).map f = acc ++ [f x] := by
      rw [List.take_add_one, hx, List.map_append, ← ha]
      rfl
    rw [e2]
    exact h1
  · obtain ⟨rfl, ha⟩ := hj
    rw [List.length_map, List.take_length] at ha
    subst ha
    exact hn
/-! ### joins -/
def kJ (R : MEnv → Prop) (P : Out → Prop) : Out → Prop
  | .nx e => R e
  | o => P o
def kIs (e0 : MEnv) (b0 : Bool) (e : MEnv) (b : Bool) : Prop := e = e0 ∧ b = b0
section
variable {R : MEnv → Prop} {P : Out → Prop} {Pt : MEnv → Bool → Prop} {Pe : MEnv → RV → Prop} {a c : MS} {e : MEnv} {r r2 : RV} {b : Bool} {t : MT} {mc : ME} {g : PyData → PyData → Option RV}
theorem kJ_nx : kJ R P (.nx e) ↔ R e := Iff.rfl
theorem kJ_rt : kJ R P (.rt r e) ↔ P (.rt r e) := Iff.rfl
theorem kJ_bk : kJ R P (.bk e) ↔ P (.bk e) := Iff.rfl
theorem kJ_ct : kJ R P (.ct e) ↔ P (.ct e) := Iff.rfl
theorem kJ_imp (k : ∀ e, R e → P (.nx e)) : ∀ o, kJ R P o → P o := fun o h => by cases o <;> first | exact k _ h | exact h
theorem ws_j (R : MEnv → Prop) (h : WS a e (kJ R P)) (k : ∀ e, R e → P (.nx e)) : WS a e P := WS.imp h (kJ_imp k)
theorem kIf_j (R : MEnv → Prop) (h : b = true → WS a e (kJ R P)) (h' : b = false → WS c e (kJ R P)) (k : ∀ e, R e → P (.nx e)) : kIf a c P e b :=
  kIf_i (fun q => ws_j R (h q) k) fun q => ws_j R (h' q) k
theorem kIs_eq {e0 : MEnv} {b0 : Bool} : kIs e0 b0 e b ↔ e = e0 ∧ b = b0 := Iff.rfl
theorem kAnd_j (b2 : Bool) (h : b = true → WT t e (kIs e b2)) (k : Pt e (b && b2)) : kAnd t Pt e b := by
  cases b with
  | true =>
    refine kAnd_t.mpr (WT.imp (h rfl) fun e' b' ⟨h1, h2⟩ => ?_)
    subst h1 h2
    simpa using k
  | false => exact kAnd_f.mpr (by simpa using k)
theorem kOr_j (b2 : Bool) (h : b = false → WT t e (kIs e b2)) (k : Pt e (b || b2)) : kOr t Pt e b := by
  cases b with
  | false =>
    refine kOr_f.mpr (WT.imp (h rfl) fun e' b' ⟨h1, h2⟩ => ?_)
    subst h1 h2
    simpa using k
  | true => exact kOr_t.mpr (by simpa using k)
def kIsE (e0 : MEnv) (r0 : RV) (e : MEnv) (r : RV) : Prop := e = e0 ∧ r = r0
theorem kIsE_eq {e0 : MEnv} {r0 : RV} : kIsE e0 r0 e r ↔ e = e0 ∧ r = r0 := Iff.rfl
theorem kCh5_j (b2 : Bool) (h : b = true → WE mc e (kOp2b g r2 (kIsE e (.fz (.bool b2))))) (k : Pe e (.fz (.bool (b && b2)))) : kCh5 g r2 mc Pe e (.fz (.bool b)) := by
  cases b with
  | true =>
    refine kCh5_t.mpr (WE.imp (h rfl) fun e' r' h => Wp.imp h fun d h => Wp.imp h fun d2 h => Wp.imp h fun r0 ⟨h1, h2⟩ => ?_)
    subst h1 h2
    simpa using k
  | false => exact kCh5_f.mpr (by simpa using k)
/-- both ways at once, where they end alike -/
theorem kIf_b (h : WS (if b = true then a else c) e P) : kIf a c P e b := by
  unfold kIf
  cases b <;> simpa using h
end
theorem small64_eq (i : Int) : L3.small64 i = decide (-18446744073709551616 < i ∧ i < 18446744073709551616) := rfl
theorem small_of {i : Int} (h : -18446744073709551616 < i) (h' : i < 18446744073709551616) : L3.small64 i = true := by
  unfold L3.small64
  exact decide_eq_true ⟨h, h'⟩
theorem rangeD_1 : rangeD 0 1 = [.int 0] := rfl
theorem rangeD_2 : rangeD 0 2 = [.int 0, .int 1] := rfl
theorem rangeD_3 : rangeD 0 3 = [.int 0, .int 1, .int 2] := rfl
theorem range_mem {lo hi : Int} {d : PyData} (h : d ∈ rangeD lo hi) : ∃ k : Int, d = .int k ∧ lo ≤ k ∧ k < hi := by
  unfold rangeD at h
  obtain ⟨k, hk, e⟩ := List.mem_map.mp h
  rw [List.mem_range] at hk
  exact ⟨lo + k, e.symm, by omega, by omega⟩
theorem range_len {lo hi : Int} : (rangeD lo hi).length = (hi - lo).toNat := by simp [rangeD]
theorem range_at {lo hi : Int} {i : Nat} {d : PyData} (h : (rangeD lo hi)[i]? = some d) : d = .int (lo + i) ∧ lo + i < hi := by
  unfold rangeD at h
  rw [List.getElem?_map] at h
  obtain ⟨k, hk, e⟩ := Option.map_eq_some_iff.mp h
  obtain ⟨h1, h2⟩ := List.getElem?_eq_some_iff.mp hk
  rw [List.getElem_range] at h2
  rw [List.length_range] at h1
  subst h2
  exact ⟨e.symm, by omega⟩
/-- a text of signs -/
def mkS (l : List Nat) : Str := ⟨l.toArray⟩
theorem mkS_len (l : List Nat) : (mkS l).length = l.length := by show l.toArray.size = _; simp
theorem mkS_cps (l : List Nat) : (mkS l).cps.toList = l := by simp [mkS]
theorem mkS_app (l m : List Nat) : mkS l ++ mkS m = mkS (l ++ m) := by
  show (⟨l.toArray ++ m.toArray⟩ : Str) = ⟨(l ++ m).toArray⟩
  simp
theorem mkS_eta (x : Str) : mkS x.cps.toList = x := by cases x; simp [mkS]
theorem mkS_inj {l m : List Nat} (h : mkS l = mkS m) : l = m := by rw [← mkS_cps l, h, mkS_cps]
end L3

/-! L3T: texts by their signs. -/
namespace L3
open PySem PySem.Spec PyProof.Rows L2
/-- xs[lo:hi] -/
def cutG {α : Type} (a : List α) (lo hi : Option Int) : List α := (a.drop (HT.sIx a.length 0 lo)).take (HT.sIx a.length a.length hi - HT.sIx a.length 0 lo)
theorem cutD_G (a : List PyData) (lo hi : Option Int) : cutD a lo hi = cutG a lo hi := rfl
theorem cutS_S (a : List Nat) (lo hi : Option Int) : cutS (SX.S a) lo hi = SX.S (cutG a lo hi) := by
  unfold cutS cutG
  rw [SX.S_len]
section
variable {α : Type} {a : List α} {i j : Int}
theorem sIx_int {n d : Nat} (h : 0 ≤ i) : HT.sIx n d (some i) = min i.toNat n := by
  show (if i < 0 then (i + (n : Int)).toNat else min i.toNat n) = _
  rw [if_neg (by omega)]
theorem cutG_none : cutG a none none = a := by
  unfold cutG
  rw [HT.sIx_none, HT.sIx_none]
  simp
theorem cutG_to (h : 0 ≤ i) : cutG a none (some i) = a.take i.toNat := by
  unfold cutG
  rw [HT.sIx_none, sIx_int h, List.drop_zero, Nat.sub_zero]
  exact (List.take_eq_take_iff).mpr (by omega)
theorem cutG_from (h : 0 ≤ i) : cutG a (some i) none = a.drop i.toNat := by
  unfold cutG
  rw [HT.sIx_none, sIx_int h, List.take_of_length_le (by rw [List.length_drop]; exact Nat.le_refl _)]
  by_cases hl : i.toNat ≤ a.length
  · rw [Nat.min_eq_left hl]
  · rw [Nat.min_eq_right (by omega), List.drop_eq_nil_of_le (by omega), List.drop_eq_nil_of_le (by omega)]
theorem cutG_mid (h : 0 ≤ i) (h' : 0 ≤ j) : cutG a (some i) (some j) = (a.drop i.toNat).take (j - i).toNat := by
  unfold cutG
  rw [sIx_int h, sIx_int h']
  by_cases hl : i.toNat ≤ a.length
  · rw [Nat.min_eq_left hl]
    refine (List.take_eq_take_iff).mpr ?_
    rw [List.length_drop]
    omega
  · rw [Nat.min_eq_right (a := i.toNat) (b := a.length) (by omega), List.drop_eq_nil_of_le (Nat.le_refl _), List.drop_eq_nil_of_le (by omega)]
    simp
theorem cutG_but : cutG a none (some (-1)) = a.take (a.length - 1) := by
  unfold cutG
  rw [HT.sIx_none, List.drop_zero, Nat.sub_zero]
  have e : HT.sIx a.length a.length (some (-1)) = a.length - 1 := by
    show (if (-1 : Int) < 0 then ((-1 : Int) + (a.length : Int)).toNat else min (-1 : Int).toNat a.length) = _
    rw [if_pos (by decide)]
    omega
  rw [e]
end
theorem S_cps (a : List Nat) : (SX.S a).cps.toList = a := by simp [SX.S]
theorem S_len' (a : List Nat) : Str.length ⟨a.toArray⟩ = a.length := SX.S_len a
theorem S_mk (c : Nat) : (⟨#[c]⟩ : Str) = SX.S [c] := rfl
theorem repS_S (a : List Nat) (n : Nat) : repS (SX.S a) n = SX.S (List.replicate n a).flatten := by
  have h : ∀ (n : Nat) (b : List Nat), ((List.replicate n a.toArray).foldl (· ++ ·) b.toArray) = (b ++ (List.replicate n a).flatten).toArray := by
    intro n
    induction n with
    | zero => intro b; simp
    | succ n ih =>
      intro b
      rw [List.replicate_succ, List.foldl_cons]
      have e : b.toArray ++ a.toArray = (b ++ a).toArray := by simp
      rw [e, ih (b ++ a), List.replicate_succ, List.flatten_cons, List.append_assoc]
  have := h n []
  rw [List.nil_append] at this
  unfold repS
  show (⟨(List.replicate n a.toArray).foldl (· ++ ·) #[]⟩ : Str) = ⟨_⟩
  rw [← this]
theorem inD_S {c : Nat} {l : List Nat} : inD (.str (SX.S [c])) (.str (SX.S l)) = some (.fz (.bool (decide (c ∈ l)))) := by
  show (match (SX.S [c]).cps.toList with
    | [c] => fzB (decide (c ∈ (SX.S l).cps.toList))
    | _ => none) = _
  rw [S_cps, S_cps]
  rfl
theorem notInD_S {c : Nat} {l : List Nat} : notInD (.str (SX.S [c])) (.str (SX.S l)) = some (.fz (.bool (!decide (c ∈ l)))) := by
  show (match (SX.S [c]).cps.toList with
    | [c] => some (RV.fz (.bool (!decide (c ∈ (SX.S l).cps.toList))))
    | _ => none) = _
  rw [S_cps, S_cps]
theorem signD_S (l : List Nat) : signD (SX.S l) = l.map fun c => PyData.str (SX.S [c]) := by
  unfold signD
  rw [S_cps]
theorem ixD_S {l : List Nat} {i : Int} : ixD (.str (SX.S l)) (.int i) = if l.length ≤ lineN then (atI l i).bind fun c => some (.fz (.str (SX.S [c]))) else none := by
  show (if (SX.S l).length ≤ lineN then (atI (SX.S l).cps.toList i).bind fun c => fzS ⟨#[c]⟩ else none) = _
  rw [S_cps, SX.S_len]
  rfl
theorem num_len {m : Int} (h0 : 0 ≤ m) {k : Nat} (hk : 0 < k) (h : m < 10 ^ k) : (Str.ofString (toString m)).length ≤ k := by
  have h1 := digits_le h0 hk h
  rw [asciiBytes, List.length_map] at h1
  rw [Str.ofString_eq_toList]
  show ((toString m).toList.map Char.toNat).toArray.size ≤ k
  rw [List.size_toArray, List.length_map]
  exact h1
theorem log_lt {m : Int} (h0 : 0 ≤ m) (h : m < 10 ^ 100) : m.natAbs.log2 < 1920 := by
  have h1 : m.natAbs < 2 ^ 1920 := by
    have h2 : m.natAbs < 10 ^ 100 := by omega
    exact Nat.lt_of_lt_of_le h2 (by decide +kernel)
  by_cases hz : m.natAbs = 0
  · rw [hz]; decide
  · exact (Nat.log2_lt hz).mpr h1
theorem joinL_nil : ∀ cs : List Nat, TL.joinL [] (cs.map fun c => [c]) = cs
  | [] => rfl
  | [_] => rfl
  | c :: d :: r => by
    show [c] ++ ([] ++ TL.joinL [] ((d :: r).map fun c => [c])) = _
    rw [joinL_nil (d :: r)]
    rfl
theorem join_signs (cs : List Nat) : Txt.join (SX.S []) (cs.map fun c => SX.S [c]) = SX.S cs := by
  have h := SX.join_S [] (cs.map fun c => [c])
  rw [List.map_map] at h
  rw [joinL_nil] at h
  exact h
theorem lens_signs (cs : List Nat) : ((cs.map fun c => SX.S [c]).map (·.length)).sum = cs.length := by
  induction cs with
  | nil => rfl
  | cons c cs ih =>
    rw [List.map_cons, List.map_cons, List.sum_cons, ih, SX.S_len, List.length_cons]
    simp [Nat.add_comm]
end L3

/-! L3M: the law's own call, under no guard. -/
namespace L3
open PySem PySem.Spec PyProof.Rows L2
section
variable {P : Program} {w : World} {K : PySem.W.Frag} {mg mb : Str → Option Value} {CX : CXT} {k : Nat} {fa a : Addr} {fd : FuncData} {x : Str} {sp : Sp} {s1 : Shared} {vs : List Value} {ns : List Int}
/-- the script as the only thing that is tracked, frozen -/
def onlyAt (a : Addr) (vs : List Value) (ns : List Int) : Hp := fun b => if b = a then some (.frz { cls := .type "list", data := .seq vs.toArray } (.lst (ns.map V.int))) else none
/-- from an abstract heap that tracks the script or nothing -/
theorem callG_at (KX : K.In s1.heap) (g1 : s1.heap.Ns mainGlobals mg) (g2 : s1.heap.Ns builtinsNs mb) (g3 : ∀ x : Str, x ≠ "__name__" → mb x = bootBuiltins x) (g4 : s1.heap.NoLimit) (g5 : s1.gens = #[])
    (ha : s1.heap.get? a = some { cls := .type "list", data := .seq vs.toArray }) (hr : RoomG k callerA)
    (F : ∀ base : Heap, K.In base → base.Ns mainGlobals mg → FnOkG P w K mg base CX k fa fd [x] sp) (hbind : ∀ (s : Shared) (u : Value), BindsTo s fd ⟨[u], []⟩ [(x, u)])
    (hsp : ∀ H : Hp, Only H → SqL K H a (ns.map V.int) → sp [.ref a] H (fun v _ => v = .bl true) fun _ _ _ => False) (hCX : ∀ H e s', CX [] H s1 (fun _ _ _ => False) e s' → False)
    {H : Hp} (hO : Only H) (hS : SqL K H a (ns.map V.int)) (hok : HOk P w H s1.heap) (one : ∀ b, b ≠ a → H b = none) (cst : H a ≠ none → K.lookup a = none) :
    codeAny (model P w) callerA (.call (.ref fa) ⟨[.ref a], []⟩) (fun r s' => r = .ok (.ret (.bool true)) ∧ OldK s1.heap s'.heap ∧ s'.os = s1.os ∧ AllBare s'.gens) s1 := by
  have far : ∀ b, H b ≠ none → b = a := fun b n => Classical.byContradiction fun z => n (one b z)
  have dicts : ∀ {b : Addr} {m : Str → Option Value}, s1.heap.Ns b m → (hidT s1.heap H).Ns b m := by
    rintro b m ⟨o, es, ep, e, d, r⟩
    refine ⟨o, es, ep, hidT_get e ?_, d, r⟩
    by_cases z : H b = none
    · exact z
    · have eb := far b z
      rw [eb, ha] at e
      cases e
      exact nomatch d
  have kin : K.In (hidT s1.heap H) := fun b o e => hidT_get (KX b o e) (by
    by_cases z : H b = none
    · exact z
    · have eb := far b z
      rw [eb] at e z
      rw [cst z] at e
      cases e)
  have md : Mod K mg (hidT s1.heap H) := ⟨kin, dicts g1, ⟨mb, dicts g2, g3⟩, by
    obtain ⟨mc, q1, q2⟩ := g4
    exact ⟨mc, dicts q1, q2⟩⟩
  have en : Env0 P w K mg (hidT s1.heap H) callerA [] s1 H := ⟨rfl, md, fun b o e => of_hidT e, Nat.le_of_eq (hidT_size _ _), trivial, fun b hb => (List.not_mem_nil (show b ∈ ([] : List Addr) from hb)).elim, hok, .of_eq g5⟩
  have ran := (F _ kin (dicts g1)).go callerA [] s1 H ⟨[.ref a], []⟩ [.ref a] [.ref a] _ _ hr en (hbind s1 (.ref a)) (.cons rfl .nil) (hsp H hO hS)
  refine codeAny_mono ran ?_
  rintro (e | fl) s2 hq
  · exact (hCX H e s2 hq).elim
  · cases fl with
    | ret u =>
      obtain ⟨v, H2, o2, b2, un, hok2, rv, q⟩ := hq
      cases (show v = .bl true from q)
      cases (show u = Value.bool true from rv)
      refine ⟨rfl, .of_keep fun b o e => ?_, o2, b2⟩
      rcases hO b with z | ⟨ob, xs, z⟩
      · exact un.keep b o e z (fun h => by cases (show b ∈ ([] : List Addr) from h)) (by simp)
      · have y1 := (hok b _ z).1
        have y2 := (hok2 b _ (un.frzs b ob _ z)).1
        rw [e] at y1
        cases y1
        exact y2
    | _ => exact (show False from hq).elim
theorem callG (KX : K.In s1.heap) (g1 : s1.heap.Ns mainGlobals mg) (g2 : s1.heap.Ns builtinsNs mb) (g3 : ∀ x : Str, x ≠ "__name__" → mb x = bootBuiltins x) (g4 : s1.heap.NoLimit) (g5 : s1.gens = #[])
    (ha : s1.heap.get? a = some { cls := .type "list", data := .seq vs.toArray }) (hi : IntsAre vs ns) (hl : ns.length ≤ sizeLine) (hr : RoomG k callerA)
    (F : ∀ base : Heap, K.In base → base.Ns mainGlobals mg → FnOkG P w K mg base CX k fa fd [x] sp) (hbind : ∀ (s : Shared) (u : Value), BindsTo s fd ⟨[u], []⟩ [(x, u)])
    (hsp : ∀ H : Hp, Only H → SqL K H a (ns.map V.int) → sp [.ref a] H (fun v _ => v = .bl true) fun _ _ _ => False) (hCX : ∀ H e s', CX [] H s1 (fun _ _ _ => False) e s' → False) :
    codeAny (model P w) callerA (.call (.ref fa) ⟨[.ref a], []⟩) (fun r s' => r = .ok (.ret (.bool true)) ∧ OldK s1.heap s'.heap ∧ s'.os = s1.os ∧ AllBare s'.gens) s1 := by
  have rv := vals_ints hi
  cases hk : K.lookup a with
  | some o =>
    have e := KX a o hk
    rw [ha] at e
    cases e
    have hsz : vs.toArray.size ≤ sizeLine := by rw [List.size_toArray, hi.length]; exact hl
    exact callG_at KX g1 g2 g3 g4 g5 ha hr F hbind hsp hCX (H := fun _ => none) (fun _ => .inl rfl) (.inr ⟨_, vs.toArray, _, hk, rfl, rfl, rfl, hsz, by simpa using rv⟩) (fun b u z => by cases z) (fun _ _ => rfl) fun z => (z rfl).elim
  | none =>
    have at_a : onlyAt a vs ns a = some (.frz { cls := .type "list", data := .seq vs.toArray } (.lst (ns.map V.int))) := if_pos rfl
    have at_b : ∀ b, b ≠ a → onlyAt a vs ns b = none := fun b hb => if_neg hb
    refine callG_at KX g1 g2 g3 g4 g5 ha hr F hbind hsp hCX (H := onlyAt a vs ns) (fun b => ?_) (.inl (.inr ⟨_, at_a⟩)) (fun b u z => ?_) at_b fun _ => hk
    · by_cases hb : b = a
      · rw [hb]; exact .inr ⟨_, _, at_a⟩
      · exact .inl (at_b b hb)
    · by_cases hb : b = a
      · rw [hb] at z ⊢
        cases at_a.symm.trans z
        exact ⟨ha, by rw [List.length_map]; exact hl, vs, _, rv, ha⟩
      · cases (at_b b hb).symm.trans z
end
/-- the goal that k_head leaves, under no guard -/
theorem walk_G {l : PySem.W.OpenLaw} {n k : Nat} {q : Program} {loose : List Str} {XP : (Str → Option Value) → Heap → Prop} {YP : World → Heap → Prop} {d : DefRec} {K : Params → PySem.W.Frag} {sp : PySem.W.Frag → Sp} {x : Str}
    (hn : l.most = some n) (hn2 : n ≤ sizeLine) (hdf : d.params.defaults = []) (hr : Room k callerA) (hY : ∀ (w : World) (h : Heap), YP w h → (K w.params).In h)
    (F : ∀ (w : World) (mg : Str → Option Value) (fa : Addr) (h : Heap), (K w.params).In h → h.Ns mainGlobals mg → mg d.name = some (.ref fa) →
      ∃ fd : FuncData, (∀ (s : Shared) (u : Value), BindsTo s fd ⟨[u], []⟩ [(x, u)]) ∧ ∀ base : Heap, (K w.params).In base → base.Ns mainGlobals mg → FnOkG l.prog w (K w.params) mg base CX0 k fa fd [x] (sp (K w.params)))
    (hsp : ∀ (K : PySem.W.Frag) (H : Hp) (a : Addr) (ns : List Int), ns.length ≤ n → Only H → SqL K H a (ns.map V.int) → sp K [.ref a] H (fun v _ => v = .bl true) fun _ _ _ => False) :
    PySem.W.WalkO q loose XP YP l.row.toRowW d [] (fun f vs => PySem.call f vs) := by
  refine Att.attach_call hn hdf ?_
  intro w s0 s1 mg mb fa o pm cd doc a vs ns G Y ho hd hcd hmg hobj hints hlen hg
  have KX := hY w _ Y
  obtain ⟨fd, hb, hF⟩ := F w mg fa _ KX G.T.g hmg
  exact callG KX G.T.g G.T.b G.T.builtins G.T.nolimit hg hobj hints (Nat.le_trans hlen hn2) ⟨hr, rfl⟩ hF hb (fun H hO hS => hsp (K w.params) H a ns hlen hO hS) fun _ _ _ h => h
end L3

/-! L3R: repr. -/
namespace L3
open PySem PySem.Spec PyProof.Rows L2
mutual
/-- no list within -/
def listFree : PyData → Bool
  | .list _ => false
  | .tuple xs => listFreeAll xs
  | .dict kvs => listFreeKv kvs
  | _ => true
def listFreeAll : List PyData → Bool
  | [] => true
  | x :: xs => listFree x && listFreeAll xs
def listFreeKv : List (PyData × PyData) → Bool
  | [] => true
  | (_, v) :: r => listFree v && listFreeKv r
end
theorem listFreeKv_snd : ∀ kvs : List (PyData × PyData), listFreeKv kvs = listFreeAll (kvs.map (·.2))
  | [] => by simp [listFreeKv, listFreeAll]
  | (_, v) :: r => by simp [listFreeKv, listFreeAll, listFreeKv_snd r]
theorem keys_reads {h : Heap} : ∀ (ks : List Key) (us : List Value), Vals (ks.map kV) us → ∃ as, ReadsAll h us (ks.map keyD) as ∧ sysModules ∉ as
  | [], _, r => by cases r; exact ⟨[], .nil, by simp⟩
  | k :: ks, _, r => by
    cases r with
    | cons a t =>
      obtain ⟨as, q, n⟩ := keys_reads ks _ t
      cases k with
      | inl i => obtain ⟨tk, rfl⟩ := a; exact ⟨[] ++ as, .cons (.int i tk) q, by simpa using n⟩
      | inr x => obtain ⟨tk, rfl⟩ := a; exact ⟨[] ++ as, .cons (.str x tk) q, by simpa using n⟩
section
variable {X : Cx} {pins : List (Addr × Obj)} {σ : L2.St} {H : Hp} {s : Shared}
theorem tkeys_reads (I : Inv X pins σ H s) : ∀ {kvs : List (List Key × V)} {xs : List (List Key × Addr × Value)}, Paired (fun (p : List Key × V) (q : List Key × Addr × Value) => p.1 = q.1 ∧ H q.2.1 = some (.tup (p.1.map kV)) ∧ RelV p.2 q.2.2) kvs xs →
    (∃ as, ReadsAll s.heap (xs.map fun q => Value.ref q.2.1) (kvs.map fun p => PyData.tuple (p.1.map keyD)) as ∧ sysModules ∉ as) ∧ Vals (kvs.map (·.2)) (xs.map fun q => q.2.2)
  | _, _, .nil => ⟨⟨[], .nil, by simp⟩, .nil⟩
  | _, _, .cons h t => by
    obtain ⟨⟨as, q, n⟩, v⟩ := tkeys_reads I t
    obtain ⟨e1, e2, e3⟩ := h
    obtain ⟨its, rv, ⟨o, e, c, m, d⟩, _⟩ := I.tuple (SqT.of e2)
    obtain ⟨bs, q2, n2⟩ := keys_reads (h := s.heap) _ _ rv
    refine ⟨⟨bs ++ as, .cons (.tuple e c d (by simpa using q2)) q, ?_⟩, .cons e3 v⟩
    simp only [List.mem_append, not_or]
    exact ⟨n2, n⟩
mutual
theorem rp_reads (I : Inv X pins σ H s) : ∀ {d : PyData} {v : V} {u : Value}, Rp X.K H v d → RelV v u → ∃ as, Reads s.heap u d as ∧ (listFree d = true → sysModules ∉ as)
  | _, _, u, .non, r => by cases r; exact ⟨[], .none, fun _ => by simp⟩
  | _, _, u, .bl b, r => by cases r; exact ⟨[], .bool b, fun _ => by simp⟩
  | _, _, u, .int i, r => by obtain ⟨t, rfl⟩ := r; exact ⟨[], .int i t, fun _ => by simp⟩
  | _, _, u, .str x, r => by obtain ⟨t, rfl⟩ := r; exact ⟨[], .str x t, fun _ => by simp⟩
  | _, _, u, .lst q t, r => by
    cases r
    obtain ⟨its, rv, ⟨o, n, e, c, _, d⟩, _⟩ := I.list q
    obtain ⟨as, q2, _⟩ := rp_readsAll I t rv
    exact ⟨_, .list e c d (by simpa using q2), fun z => by simp [listFree] at z⟩
  | _, _, u, .tup q t, r => by
    cases r
    obtain ⟨its, rv, ⟨o, e, c, m, d⟩, _⟩ := I.tuple (SqT.of q)
    obtain ⟨as, q2, n2⟩ := rp_readsAll I t rv
    exact ⟨_, .tuple e c d (by simpa using q2), fun z => n2 (by simpa [listFree] using z)⟩
  | _, _, u, .dK (kvs := kvs) (ds := ds) q t, r => by
    cases r
    obtain ⟨_, hS, vs, kv, o, es, ep, e, c, dd, _, pr, _⟩ := (show ObjOk X.prog X.w H s.heap _ (.dK kvs) from I.hok _ _ q)
    obtain ⟨vv, ke⟩ := kv_vals kv
    obtain ⟨as, r1, n1⟩ := pairs_keys pr s.heap
    obtain ⟨bs, r2, n2⟩ := rp_readsAll I t vv
    have hl : ds.length = (kvs.map fun p => keyD p.1).length := by rw [← t.length, List.length_map, List.length_map]
    have e1 : (((kvs.map fun p => keyD p.1).zip ds).map (·.1)) = vs.map fun p => keyD p.1 := by
      rw [List.map_fst_zip (by omega), show (vs.map fun p => keyD p.1) = (vs.map (·.1)).map keyD by rw [List.map_map]; rfl, ke, List.map_map]
      rfl
    have e2 : (((kvs.map fun p => keyD p.1).zip ds).map (·.2)) = ds := List.map_snd_zip (by omega)
    refine ⟨_, .dict e c.1 dd (by rw [e1]; exact r1) (by rw [e2, pairs_vals pr]; exact r2), fun z => ?_⟩
    have z2 : listFreeAll ds = true := by
      have : listFreeKv ((kvs.map fun p => keyD p.1).zip ds) = true := by simpa [listFree] using z
      rw [listFreeKv_snd, e2] at this
      exact this
    have na := beq_eq_false_iff_ne.mp hS
    simp only [List.cons_append, List.mem_cons, List.mem_append, not_or]
    exact ⟨fun w => na w.symm, n1, n2 z2⟩
  | _, _, u, .dT (kvs := kvs) (ds := ds) q _ t, r => by
    cases r
    obtain ⟨_, hS, xs, pr, o, es, ep, e, c, dd, ee, _⟩ := (show ObjOk X.prog X.w H s.heap _ (.dT kvs) from I.hok _ _ q)
    obtain ⟨⟨as, r1, n1⟩, vv⟩ := tkeys_reads I pr
    obtain ⟨bs, r2, n2⟩ := rp_readsAll I t vv
    have hl : ds.length = (kvs.map fun p => PyData.tuple (p.1.map keyD)).length := by rw [← t.length, List.length_map, List.length_map]
    have e1 : (((kvs.map fun p => PyData.tuple (p.1.map keyD)).zip ds).map (·.1)) = kvs.map fun p => PyData.tuple (p.1.map keyD) := List.map_fst_zip (by omega)
    have e2 : (((kvs.map fun p => PyData.tuple (p.1.map keyD)).zip ds).map (·.2)) = ds := List.map_snd_zip (by omega)
    refine ⟨_, .dict e c.1 dd (by rw [e1, ee, List.map_map]; exact r1) (by rw [e2, ee, List.map_map]; exact r2), fun z => ?_⟩
    have z2 : listFreeAll ds = true := by
      have : listFreeKv ((kvs.map fun p => PyData.tuple (p.1.map keyD)).zip ds) = true := by simpa [listFree] using z
      rw [listFreeKv_snd, e2] at this
      exact this
    have na := beq_eq_false_iff_ne.mp hS
    simp only [List.cons_append, List.mem_cons, List.mem_append, not_or]
    exact ⟨fun w => na w.symm, n1, n2 z2⟩
theorem rp_readsAll (I : Inv X pins σ H s) : ∀ {ds : List PyData} {vs : List V} {us : List Value}, RpAll X.K H vs ds → Vals vs us → ∃ as, ReadsAll s.heap us ds as ∧ (listFreeAll ds = true → sysModules ∉ as)
  | _, _, _, .nil, r => by cases r; exact ⟨[], .nil, fun _ => by simp⟩
  | _, _, _, .cons h t, r => by
    cases r with
    | cons a b =>
      obtain ⟨as, r1, n1⟩ := rp_reads I h a
      obtain ⟨bs, r2, n2⟩ := rp_readsAll I t b
      refine ⟨_, .cons r1 r2, fun z => ?_⟩
      rw [listFreeAll, Bool.and_eq_true] at z
      simp only [List.mem_append, not_or]
      exact ⟨n1 z.1, n2 z.2⟩
end
end
def reprD : List PyData → Option RV
  | [d] => if d.showable = true ∧ (d.hasDict = false ∨ listFree d = true) ∧ d.depth ≤ 60 ∧ d.shown.length ≤ lineN then some (.fz (.str d.shown)) else none
  | _ => none
section
variable {X : Cx} {k : Nat}
theorem Rp.atom {K : PySem.W.Frag} {H : Hp} {v : V} {d : PyData} (h : Rp K H v d) : (∃ a, v = .ref a) ∨ (v = .non ∧ d = .none) ∨ (∃ b, v = .bl b ∧ d = .bool b) ∨ (∃ i, v = .int i ∧ d = .int i) ∨ ∃ x, v = .str x ∧ d = .str x := by
  cases h with
  | non => exact .inr (.inl ⟨rfl, rfl⟩)
  | bl b => exact .inr (.inr (.inl ⟨b, rfl, rfl⟩))
  | int i => exact .inr (.inr (.inr (.inl ⟨i, rfl, rfl⟩)))
  | str x => exact .inr (.inr (.inr (.inr ⟨x, rfl, rfl⟩)))
  | lst _ _ => exact .inl ⟨_, rfl⟩
  | tup _ _ => exact .inl ⟨_, rfl⟩
  | dK _ _ => exact .inl ⟨_, rfl⟩
  | dT _ _ _ => exact .inl ⟨_, rfl⟩
theorem c_repr (hr : RoomG k X.A) : CallR X (.builtin "repr") (rCall X.K reprD) := by
  intro pins s σ H xs us Q I r ⟨F, ds, rv, sm, kx, hf, g⟩
  unfold reprD at hf
  split at hf
  case h_2 => cases hf
  rename_i d
  split at hf
  case isFalse => cases hf
  rename_i hc
  cases hf
  obtain ⟨v, rfl, rk⟩ := rk1 kx
  obtain ⟨u, rfl, ru⟩ := vals1 r
  have rp := rk.rp sm
  have q := g.flat sm (.str d.shown)
  rcases rp.atom with ⟨a, rfl⟩ | ⟨rfl, rfl⟩ | ⟨b, rfl, rfl⟩ | ⟨i, rfl, rfl⟩ | ⟨x, rfl, rfl⟩
  · obtain ⟨as, rd, ns⟩ := rp_reads I rp ru
    cases ru
    have hu := hr.units
    refine repr_of_reads' (h₀ := s.heap) rd hc.1 (fun z => ?_) hr.g (by have := hc.2.2.1; omega) (fun _ _ e => e) (fun h' t tk keep => ⟨.str d.shown, H, I.kept keep, ⟨t, rfl⟩, q⟩) (line_le hc.2.2.2)
    rcases hc.2.1 with y | y
    · rw [z] at y; cases y
    · exact ns y
  · cases ru
    simp only [PyData.shown] at q
    exact PySem.P.repr_of_none ⟨.str _, H, I.tok _, ⟨_, rfl⟩, q⟩
  · cases ru
    simp only [PyData.shown] at q
    exact PySem.P.repr_of_bool ⟨.str _, H, I.tok _, ⟨_, rfl⟩, q⟩
  · obtain ⟨t, rfl⟩ := ru
    simp only [PyData.shown] at q
    exact PySem.P.repr_of_int (by simpa [PyData.showable] using hc.1) ⟨.str _, H, I.tok _, ⟨_, rfl⟩, q⟩
  · obtain ⟨t, rfl⟩ := ru
    simp only [PyData.shown] at q
    exact PySem.P.repr_of_str ⟨.str _, H, I.tok _, ⟨_, rfl⟩, q⟩ (by have := hc.2.2.2; simp only [PyData.shown] at this; exact line_le this)
end
end L3

/-! L3S: sorted, max and min and sum of a list, extend. -/
namespace L3
open PySem PySem.Spec PyProof.Rows L2
/-! ### sorted -/
def tupNE : PyData → Bool
  | .tuple (_ :: _) => true
  | _ => false
def noTup : PyData → Bool
  | .none => false
  | .tuple _ => false
  | _ => true
def canSort (ds : List PyData) : Bool := (ds.all fun d => ds.all fun e => PySem.W.alike d e) && (ds.all tupNE || ds.all noTup) && ds.all fun d => decide (d.depth ≤ 50)
def sortD (ds : List PyData) : List PyData := ds.mergeSort (PySem.W.dataLe false fun d => d)
def sortedD : List PyData → Option RV
  | [.list ds] => if canSort ds = true then some (.own (.list (sortD ds))) else none
  | _ => none
theorem can_sort {ds : List PyData} (h : canSort ds = true) : PySem.W.AllAlike ds ∧ PySem.W.Sortable ds ∧ ∀ d ∈ ds, d.depth ≤ 50 := by
  unfold canSort at h
  rw [Bool.and_eq_true, Bool.and_eq_true, Bool.or_eq_true, List.all_eq_true, List.all_eq_true, List.all_eq_true, List.all_eq_true] at h
  obtain ⟨⟨h1, h2⟩, h3⟩ := h
  refine ⟨fun d hd e he => List.all_eq_true.mp (h1 d hd) e he, ?_, fun d hd => of_decide_eq_true (h3 d hd)⟩
  rcases h2 with h2 | h2
  · refine .inl fun d hd => ?_
    have := h2 d hd
    cases d with
    | tuple xs => cases xs with
      | nil => cases this
      | cons x r => exact ⟨x, r, rfl⟩
    | _ => cases this
  · refine .inr fun d hd => ?_
    have := h2 d hd
    cases d with
    | none => cases this
    | tuple xs => cases this
    | _ => exact ⟨(fun z => nomatch z), (fun _ z => nomatch z)⟩
theorem each_rp {K : PySem.W.Frag} {F : Hp} : ∀ {vs : List V} {us : List Value} {ds : List PyData}, Vals vs us → RpAll K F vs ds → PySem.W.EachIs (fun u d => ∃ v, RelV v u ∧ Rp K F v d) us ds
  | _, _, _, .nil, r => by cases r; exact .nil
  | _, _, _, .cons a t, r => by
    cases r with
    | cons h r => exact .cons ⟨_, a, h⟩ (each_rp t r)
theorem rp_each {K : PySem.W.Frag} {F : Hp} : ∀ {us : List Value} {ds : List PyData}, PySem.W.EachIs (fun u d => ∃ v, RelV v u ∧ Rp K F v d) us ds → ∃ vs, Vals vs us ∧ RpAll K F vs ds
  | _, _, .nil => ⟨[], .nil, .nil⟩
  | _, _, .cons ⟨v, a, h⟩ t => by
    obtain ⟨vs, q1, q2⟩ := rp_each t
    exact ⟨v :: vs, .cons a q1, .cons h q2⟩
section
variable {X : Cx} {k : Nat}
theorem c_sorted (hr : RoomG k X.A) : CallR X (.builtin "sorted") (rCall X.K sortedD) := by
  intro pins s σ H xs us Q I r ⟨F, ds, rv, sm, kx, hf, g⟩
  unfold sortedD at hf
  split at hf
  case h_2 => cases hf
  rename_i ds
  split at hf
  case isFalse => cases hf
  rename_i hc
  cases hf
  obtain ⟨h1, h2, h3⟩ := can_sort hc
  obtain ⟨v, rfl, rk⟩ := rk1 kx
  obtain ⟨u, rfl, ru⟩ := vals1 r
  obtain ⟨a, vs, rfl, q, rp⟩ := rk.lst sm
  cases ru
  obtain ⟨its, rv, hl, hz⟩ := I.list q
  obtain ⟨as, rd, _⟩ := rp_readsAll I (rp.mono sm) rv
  have hu := hr.units
  have em : ds.map (fun d => d) = ds := List.map_id' ds
  have rd' : ReadsAll s.heap its (ds.map fun d => d) as := by rw [em]; exact rd
  refine PySem.W.sorted_data (enc := fun d => d) (bs := ds) hl.isList (each_rp rv rp) (PySem.W.readsAll_each (fun d => d) rd') (by rw [em]; exact h1) (by rw [em]; exact h2) (by rw [← rp.length]; exact hz) (fun d hd => by have := h3 d hd; omega) fun out hlen ho => ?_
  obtain ⟨ws, w1, w2⟩ := rp_each ho
  obtain ⟨ep, he'⟩ := PyProof.Rows.sortedAll_at s.heap its out.toArray
  have hw : ws.length ≤ sizeLine := by rw [w1.length, hlen, ← rp.length]; exact hz
  exact ⟨.ref _, upd H (s.heap.objs.size + 1) (.lst ws), I.laid (t' := s.toks) (fun _ _ => PyProof.Rows.sortedAll_old) (Nat.le_succ _) ⟨hw, out, ep, w1, by simpa using he'⟩, rfl, g.newList sm w2 (I.hok.fresh (Nat.le_succ _))⟩
/-! ### max, min, sum -/
def intsOf : List PyData → Option (List Int)
  | [] => some []
  | .int i :: ds => (intsOf ds).bind fun ns => some (i :: ns)
  | _ => none
theorem rp_ints {K : PySem.W.Frag} {F : Hp} : ∀ {ds : List PyData} {vs : List V} {ns : List Int}, RpAll K F vs ds → intsOf ds = some ns → vs = ns.map V.int
  | [], _, _, h, e => by cases h; cases e; rfl
  | .int b :: ds, _, _, h, e => by
    obtain ⟨bs, e1, e2⟩ := bind_some e
    cases e2
    cases h with
    | cons a t =>
      cases a
      rw [List.map_cons, ← rp_ints t e1]
  | .none :: _, _, _, _, e => by cases e
  | .bool _ :: _, _, _, _, e => by cases e
  | .str _ :: _, _, _, _, e => by cases e
  | .list _ :: _, _, _, _, e => by cases e
  | .tuple _ :: _, _, _, _, e => by cases e
  | .dict _ :: _, _, _, _, e => by cases e
theorem intsOf_map : ∀ ns : List Int, intsOf (ns.map PyData.int) = some ns
  | [] => rfl
  | n :: ns => by
    rw [List.map_cons, intsOf, intsOf_map ns]
    rfl
theorem intsOf_nil : intsOf [] = some [] := rfl
theorem intsOf_cons {i : Int} {ds : List PyData} : intsOf (.int i :: ds) = (intsOf ds).bind fun ns => some (i :: ns) := rfl
def maxLD : List PyData → Option RV
  | [.list ds] => (intsOf ds).bind fun ns => (ns.max?).bind fun m => fzI m
  | _ => none
def minLD : List PyData → Option RV
  | [.list ds] => (intsOf ds).bind fun ns => (ns.min?).bind fun m => fzI m
  | _ => none
def sumLD : List PyData → Option RV
  | [.list ds] => (intsOf ds).bind fun ns => fzI ns.sum
  | _ => none
theorem ints_arg {Q : VK} {xs : List V} {F H : Hp} {ds : List PyData} {ns : List Int} (sm : Same F H) (kx : RkAll X.K F H xs [.list ds]) (hi : intsOf ds = some ns) : ∃ a, xs = [V.ref a] ∧ SqL X.K H a (ns.map V.int) := by
  obtain ⟨v, rfl, rk⟩ := rk1 kx
  obtain ⟨a, vs, rfl, q, rp⟩ := rk.lst sm
  rw [rp_ints rp hi] at q
  exact ⟨a, rfl, q⟩
theorem c_maxL (hc : X.calm = true) : CallR X (.builtin "max") (rCall X.K maxLD) := by
  intro pins s σ H xs us Q I r ⟨F, ds, rv, sm, kx, hf, g⟩
  unfold maxLD at hf
  split at hf
  case h_2 => cases hf
  obtain ⟨ns, e1, hf⟩ := bind_some hf
  obtain ⟨m, e2, hf⟩ := bind_some hf
  cases hf
  obtain ⟨a, rfl, q⟩ := ints_arg (Q := Q) sm kx e1
  refine cr_max hc pins s σ H _ us Q I r ⟨a, ns, rfl, q, ?_, fun m' h1 h2 => ?_⟩
  · cases ns with
    | nil => cases e2
    | cons n ns => simp
  · have e3 : ns.max? = some m' := List.max?_eq_some_iff.mpr ⟨h1, h2⟩
    rw [e2] at e3
    cases e3
    exact g.flat sm (.int _)
theorem c_minL (hc : X.calm = true) : CallR X (.builtin "min") (rCall X.K minLD) := by
  intro pins s σ H xs us Q I r ⟨F, ds, rv, sm, kx, hf, g⟩
  unfold minLD at hf
  split at hf
  case h_2 => cases hf
  obtain ⟨ns, e1, hf⟩ := bind_some hf
  obtain ⟨m, e2, hf⟩ := bind_some hf
  cases hf
  obtain ⟨a, rfl, q⟩ := ints_arg (Q := Q) sm kx e1
  refine cr_min hc pins s σ H _ us Q I r ⟨a, ns, rfl, q, ?_, fun m' h1 h2 => ?_⟩
  · cases ns with
    | nil => cases e2
    | cons n ns => simp
  · have e3 : ns.min? = some m' := List.min?_eq_some_iff.mpr ⟨h1, h2⟩
    rw [e2] at e3
    cases e3
    exact g.flat sm (.int _)
theorem c_sumL (hc : X.calm = true) : CallR X (.builtin "sum") (rCall X.K sumLD) := by
  intro pins s σ H xs us Q I r ⟨F, ds, rv, sm, kx, hf, g⟩
  unfold sumLD at hf
  split at hf
  case h_2 => cases hf
  obtain ⟨ns, e1, hf⟩ := bind_some hf
  cases hf
  obtain ⟨a, rfl, q⟩ := ints_arg (Q := Q) sm kx e1
  exact cr_sum hc pins s σ H _ us Q I r ⟨a, ns, rfl, q, g.flat sm (.int _)⟩
end
/-! ### extend -/
/-- o.extend(e), e a new list -/
def eExt (o : Nat) (me : ME) : ME := fun env => (ownL env o).bind fun _ => (me env).bind fun p => match p.2 with
  | .own (.list es) => (ownL p.1 o).bind fun w => if w.2.length + es.length ≤ lineN then some (p.1.set o (w.1.put (.list (w.2 ++ es))), .fz .none) else none
  | _ => none
section
variable {X : Cx} {oe e : Expr} {o : Nat} {me : ME} {pos apos cpos : Pos}
theorem ext_to {K : PySem.W.Frag} {σ : L2.St} {H : Hp} {Q : VK} (h : tE K (eExt o me) σ H Q) : tBM K "list" rExtend (tVar o) (tCons (tE K me) tNil) σ H Q := by
  obtain ⟨F, env, A, env', r, em, k⟩ := h
  obtain ⟨⟨x0, ds0⟩, e0, em⟩ := bind_some em
  obtain ⟨⟨env1, r1⟩, e1, em⟩ := bind_some em
  dsimp only at em
  split at em
  case h_2 => cases em
  rename_i es
  obtain ⟨⟨x, ds⟩, e3, em⟩ := bind_some em
  split at em
  case isFalse => cases em
  rename_i hz
  cases em
  obtain ⟨g1, g2⟩ := ownL_some e0
  obtain ⟨a, ha, fa, ys, hy, ry⟩ := A.own (a := 0) g1 g2
  refine ⟨.ref a, ha, .inl ⟨rfl, ys, SqL.of hy⟩, F, env, A, env1, _, e1, fun v F1 H1 A1 f1 o1 n1 => ?_⟩
  obtain ⟨b, rfl, fb, ⟨zs, hb, rz⟩, nb⟩ := o1
  obtain ⟨g3, g4⟩ := ownL_some e3
  obtain ⟨a', ha', fa', xs, hx, rx⟩ := A1.own (a := 0) g3 g4
  rw [ha] at ha'
  cases ha'
  have hl : xs.length + zs.length ≤ sizeLine := by rw [rx.length, rz.length, ← lineN_eq]; exact hz
  obtain ⟨A3, f3⟩ := put_own (d' := .list (ds ++ es)) (o := .lst (xs ++ zs)) A1 g3 g4 ha ⟨_, upd_same, rx.append rz⟩
  exact ⟨a, b, xs, zs, rfl, rfl, hx, hb, hl, k .non F1 _ A3 (f1.trans f3) Rp.non trivial⟩
theorem re_ext (ho : PE X oe (tVar o)) (he : PE X e (tE X.K me)) (hbase : attributeBase oe "extend" X.env (eval oe X.env) = eval oe X.env := by rfl)
    (hfew : ((backTo cpos (starEach [e] X.env)).all (fun x => !x.1) && (backToKw cpos (keywordEach [] X.env)).all (fun x => x.1.isSome) && decide ([e].length + ([] : List Keyword).length + (if ([] : List Keyword).isEmpty then 0 else 1) < 30)) = true := by rfl)
    (hline : (apos.endLine == cpos.line) = true := by rfl) (hs : starEach (e :: []) X.env = (false, eval e X.env) :: starEach [] X.env := by rfl) (hplain : (backTo cpos (starEach [] X.env)).any (·.1) = false := by rfl) :
    PE X (.Call (.Attribute oe "extend" apos) [e] [] cpos) (tE X.K (eExt o me)) :=
  pe_imp (pe_bm PySem.F.plainAttrs_list PySem.F.slot_list_extend PySem.F.type_list_extend mt_extend ho (pa_cons he pa_nil hs) hbase hfew hline hs hplain) fun _ _ _ => ext_to
/-! steps -/
variable {env : MEnv} {Pe : MEnv → RV → Prop} {ds es : List PyData} {ns : List Int}
def kEx3 (o : Nat) (es : List PyData) (P : MEnv → RV → Prop) (e : MEnv) (w : SV × List PyData) : Prop := w.2.length + es.length ≤ lineN ∧ P (e.set o (w.1.put (.list (w.2 ++ es)))) (.fz .none)
def kEx1 (o : Nat) (P : MEnv → RV → Prop) (e : MEnv) : RV → Prop
  | .own (.list es) => WL e o (kEx3 o es P e)
  | _ => False
def kEx0 (o : Nat) (me : ME) (P : MEnv → RV → Prop) (e : MEnv) (w : SV × List PyData) : Prop := WE me e (kEx1 o P)
theorem we_ext : WE (eExt o me) env Pe ↔ WL env o (kEx0 o me Pe env) := by
  simp only [WE, WL, eExt, kEx0, wp_bind]
  refine ⟨fun h => Wp.imp h fun w h => Wp.imp h fun p h => ?_, fun h => Wp.imp h fun w h => Wp.imp h fun p h => ?_⟩
  · obtain ⟨p1, p2⟩ := p
    cases p2 with
    | own d => cases d with
      | list es =>
        have h := wp_bind.mp h
        exact Wp.imp h fun x h => by
          have h := wp_guard.mp h
          exact ⟨h.1, (wp_some.mp h.2 :)⟩
      | _ => exact (wp_none.mp h).elim
    | _ => exact (wp_none.mp h).elim
  · obtain ⟨p1, p2⟩ := p
    cases p2 with
    | own d => cases d with
      | list es => exact wp_bind.mpr (Wp.imp h fun x h => wp_guard.mpr ⟨h.1, wp_some.mpr h.2⟩)
      | _ => exact h.elim
    | _ => exact h.elim
theorem kEx0_eq {w : SV × List PyData} : kEx0 o me Pe env w ↔ WE me env (kEx1 o Pe) := Iff.rfl
theorem kEx1_eq : kEx1 o Pe env (.own (.list es)) ↔ WL env o (kEx3 o es Pe env) := Iff.rfl
theorem kEx3_eq {x : SV} : kEx3 o es Pe env (x, ds) ↔ ds.length + es.length ≤ lineN ∧ Pe (env.set o (x.put (.list (ds ++ es)))) (.fz .none) := Iff.rfl
theorem sortedD_l : sortedD [.list ds] = if canSort ds = true then some (.own (.list (sortD ds))) else none := rfl
theorem maxLD_l : maxLD [.list ds] = (intsOf ds).bind fun ns => (ns.max?).bind fun m => some (.fz (.int m)) := rfl
theorem minLD_l : minLD [.list ds] = (intsOf ds).bind fun ns => (ns.min?).bind fun m => some (.fz (.int m)) := rfl
theorem sumLD_l : sumLD [.list ds] = (intsOf ds).bind fun ns => some (.fz (.int ns.sum)) := rfl
theorem reprD_1 {d : PyData} : reprD [d] = if d.showable = true ∧ (d.hasDict = false ∨ listFree d = true) ∧ d.depth ≤ 60 ∧ d.shown.length ≤ lineN then some (.fz (.str d.shown)) else none := rfl
end
/-! ### how long what is shown is -/
theorem strA (x y : Str) : (x ++ y).length = x.length + y.length := strLen_append x y
theorem txtJoin_le (c : Nat) : ∀ ts : List Str, (∀ t ∈ ts, t.length ≤ c) → (Str.join ", " ts).length ≤ ts.length * (c + 2)
  | [], _ => by show 0 ≤ _; omega
  | [x], h => by
    have := h x List.mem_cons_self
    show x.length ≤ _
    rw [List.length_cons, List.length_nil]
    omega
  | x :: y :: r, h => by
    have h1 := h x List.mem_cons_self
    have h2 := txtJoin_le c (y :: r) fun t ht => h t (List.mem_cons_of_mem _ ht)
    show (x ++ ", " ++ Str.join ", " (y :: r)).length ≤ _
    rw [strA, strA]
    have h3 : (", " : Str).length = 2 := by decide +kernel
    rw [h3, List.length_cons, Nat.succ_mul]
    omega
theorem tupText_le (c : Nat) (ts : List Str) (h : ∀ t ∈ ts, t.length ≤ c) : (tupleText ts).length ≤ ts.length * (c + 2) + 3 := by
  have h1 := txtJoin_le c ts h
  unfold tupleText
  rw [strA, strA]
  have h2 : ("(" : Str).length = 1 := by decide +kernel
  have h4 : (Str.ofString (if ts.length == 1 then ",)" else ")")).length ≤ 2 := by split <;> decide +kernel
  rw [h2]
  omega
theorem int_len {i : Int} (h : i.natAbs < 10 ^ 100) : (Str.ofString (toString i)).length ≤ 101 := by
  by_cases h0 : 0 ≤ i
  · have := num_len h0 (k := 100) (by decide) (by omega)
    omega
  · have e : toString i = "-" ++ toString (-i) := by
      obtain ⟨n, rfl⟩ : ∃ n : Nat, i = Int.negSucc n := ⟨(-i - 1).toNat, by omega⟩
      rfl
    have h2 := num_len (m := -i) (by omega) (k := 100) (by decide) (by omega)
    rw [Str.ofString_eq_toList] at h2 ⊢
    rw [e, String.toList_append]
    have h3 : ((toString (-i)).toList.map Char.toNat).toArray.size ≤ 100 := h2
    show ((("-" : String).toList ++ (toString (-i)).toList).map Char.toNat).toArray.size ≤ 101
    rw [List.map_append, List.size_toArray, List.length_append]
    rw [List.size_toArray] at h3
    have h4 : (("-" : String).toList.map Char.toNat).length = 1 := by decide +kernel
    omega
theorem int_log {i : Int} (h : i.natAbs < 10 ^ 100) : i.natAbs.log2 < 1920 := by
  have := log_lt (m := (i.natAbs : Int)) (by omega) (by omega)
  simpa using this
/-! ### sorted numbers -/
def sortI (ns : List Int) : List Int := ns.mergeSort fun a b => decide (a ≤ b)
theorem sortD_ints (ns : List Int) : sortD (ns.map PyData.int) = (sortI ns).map PyData.int := by
  unfold sortD sortI
  refine (List.map_mergeSort fun a _ b _ => ?_).symm
  have h := congrFun (congrFun (PySem.W.dataLe_int (fun n : Int => n)) a) b
  exact h.symm
theorem sortI_perm (ns : List Int) : (sortI ns).Perm ns := List.mergeSort_perm _ _
theorem sortI_len (ns : List Int) : (sortI ns).length = ns.length := (sortI_perm ns).length_eq
theorem sortI_mem {ns : List Int} {n : Int} : n ∈ sortI ns ↔ n ∈ ns := (sortI_perm ns).mem_iff
theorem sortI_sorted (ns : List Int) : (sortI ns).Pairwise (· ≤ ·) := by
  have h := List.pairwise_mergeSort (le := fun a b : Int => decide (a ≤ b)) (fun a b c h1 h2 => by simp at *; omega) (fun a b => by simp; omega) ns
  exact h.imp fun h => by simpa using h
theorem canSort_ints (ns : List Int) : canSort (ns.map PyData.int) = true := by
  unfold canSort
  have h1 : ((ns.map PyData.int).all fun d => (ns.map PyData.int).all fun e => PySem.W.alike d e) = true := by
    rw [List.all_eq_true]
    intro d hd
    rw [List.all_eq_true]
    intro e he
    obtain ⟨a, _, rfl⟩ := List.mem_map.mp hd
    obtain ⟨b, _, rfl⟩ := List.mem_map.mp he
    rfl
  have h2 : ((ns.map PyData.int).all noTup) = true := by
    rw [List.all_eq_true]
    intro d hd
    obtain ⟨a, _, rfl⟩ := List.mem_map.mp hd
    rfl
  have h3 : ((ns.map PyData.int).all fun d => decide (d.depth ≤ 50)) = true := by
    rw [List.all_eq_true]
    intro d hd
    obtain ⟨a, _, rfl⟩ := List.mem_map.mp hd
    exact decide_eq_true (by simp [PyData.depth])
  rw [h1, h2, h3, Bool.or_true]
  rfl
theorem sortI_2 (a b : Int) : sortI [a, b] = [min a b, max a b] := by
  have h1 := sortI_len [a, b]
  have h2 := sortI_sorted [a, b]
  have h3 := sortI_perm [a, b]
  match h : sortI [a, b], h1 with
  | [x, y], _ =>
    rw [h] at h2 h3
    have h4 : x ≤ y := by
      cases h2 with
      | cons q _ => exact q y (by simp)
    have h5 : a ∈ [x, y] := h3.mem_iff.mpr (by simp)
    have h6 : b ∈ [x, y] := h3.mem_iff.mpr (by simp)
    have h7 : x ∈ [a, b] := h3.mem_iff.mp (by simp)
    have h8 : y ∈ [a, b] := h3.mem_iff.mp (by simp)
    simp only [List.mem_cons, List.not_mem_nil, or_false] at h5 h6 h7 h8
    have e1 : x = min a b := by omega
    have e2 : y = max a b := by omega
    rw [e1, e2]
theorem sortI_4 {ns : List Int} (hl : ns.length = 4) : ∃ a b c d, sortI ns = [a, b, c, d] ∧ a ≤ b ∧ b ≤ c ∧ c ≤ d ∧ a ∈ ns ∧ b ∈ ns ∧ c ∈ ns ∧ d ∈ ns := by
  have h1 := sortI_len ns
  rw [hl] at h1
  have h2 := sortI_sorted ns
  match h : sortI ns, h1 with
  | [a, b, c, d], _ =>
    rw [h] at h2
    have mem : ∀ n, n ∈ sortI ns → n ∈ ns := fun n hn => sortI_mem.mp hn
    rw [h] at mem
    simp only [List.pairwise_cons] at h2
    exact ⟨a, b, c, d, rfl, h2.1 b (by simp), h2.2.1 c (by simp), h2.2.2.1 d (by simp), mem a (by simp), mem b (by simp), mem c (by simp), mem d (by simp)⟩
/-- a range of numbers -/
def iRange (lo hi : Int) : List Int := (List.range (hi - lo).toNat).map fun k => lo + (k : Nat)
theorem rangeD_i (lo hi : Int) : rangeD lo hi = (iRange lo hi).map PyData.int := by
  unfold rangeD iRange
  rw [List.map_map]
  rfl
theorem iRange_mem {lo hi i : Int} : i ∈ iRange lo hi ↔ lo ≤ i ∧ i < hi := by
  unfold iRange
  rw [List.mem_map]
  constructor
  · rintro ⟨k, hk, rfl⟩
    rw [List.mem_range] at hk
    omega
  · rintro ⟨h1, h2⟩
    exact ⟨(i - lo).toNat, List.mem_range.mpr (by omega), by omega⟩
theorem iRange_len (lo hi : Int) : (iRange lo hi).length = (hi - lo).toNat := by simp [iRange]
end L3

/-! L3U: dicts, the list turned about, while. -/
namespace L3
open PySem PySem.Spec PyProof.Rows L2
/-! ### a store at a key -/
def putKD (kvs : List (PyData × PyData)) (k : Key) (d : PyData) : List (PyData × PyData) :=
  if (findK k kvs).isSome = true then kvs.map (fun p => if keyOf p.1 = some k then (p.1, d) else p) else kvs ++ [(keyD k, d)]
theorem zip_mapU {K : PySem.W.Frag} {F : Hp} (k : Key) {v : V} {d : PyData} (hv : Rp K F v d) : ∀ {ks : List (Key × V)} {ds : List PyData}, RpAll K F (ks.map (·.2)) ds →
    ∃ ds', RpAll K F ((ks.map fun kv => if kv.1 = k then (kv.1, v) else kv).map (·.2)) ds' ∧
      ((ks.map fun p => keyD p.1).zip ds).map (fun p => if keyOf p.1 = some k then (p.1, d) else p) = ((ks.map fun kv => if kv.1 = k then (kv.1, v) else kv).map fun p => keyD p.1).zip ds'
  | [], _, h => by cases h; exact ⟨[], .nil, rfl⟩
  | p :: ks, _, h => by
    cases h with
    | @cons _ _ e ds a t =>
      obtain ⟨ds', q1, q2⟩ := zip_mapU k hv t
      by_cases hk : p.1 = k
      · refine ⟨d :: ds', ?_, ?_⟩
        · rw [List.map_cons, if_pos hk, List.map_cons]
          exact .cons hv q1
        · rw [List.map_cons, List.map_cons, List.zip_cons_cons, List.map_cons, if_pos hk, List.map_cons, List.zip_cons_cons, q2]
          rw [if_pos (by rw [← hk]; exact keyOf_keyD _)]
      · refine ⟨e :: ds', ?_, ?_⟩
        · rw [List.map_cons, if_neg hk, List.map_cons]
          exact .cons a q1
        · rw [List.map_cons, List.map_cons, List.zip_cons_cons, List.map_cons, if_neg hk, List.map_cons, List.zip_cons_cons, q2]
          rw [if_neg (fun z => hk (Option.some.inj ((keyOf_keyD p.1).symm.trans z)))]
theorem zip_snoc {K : PySem.W.Frag} {F : Hp} {ks : List (Key × V)} {ds : List PyData} (h : RpAll K F (ks.map (·.2)) ds) (k : Key) (v : V) (d : PyData) : ((ks ++ [(k, v)]).map fun p => keyD p.1).zip (ds ++ [d]) = (ks.map fun p => keyD p.1).zip ds ++ [(keyD k, d)] := by
  rw [List.map_append, List.zip_append (by rw [List.length_map, ← h.length, List.length_map])]
  rfl
theorem put_rel {K : PySem.W.Frag} {F : Hp} (k : Key) {v : V} {d : PyData} (hv : Rp K F v d) {ks : List (Key × V)} {ds : List PyData} (h : RpAll K F (ks.map (·.2)) ds) :
    ∃ ds', RpAll K F ((putK ks k v).map (·.2)) ds' ∧ putKD ((ks.map fun p => keyD p.1).zip ds) k d = ((putK ks k v).map fun p => keyD p.1).zip ds' := by
  unfold putK putKD
  rw [valV_any]
  rcases find_val k h with ⟨q1, q2⟩ | ⟨v', d', q1, q2, _⟩
  · rw [q1, q2, if_neg (by simp), if_neg (by simp)]
    exact ⟨ds ++ [d], by rw [List.map_append]; exact h.append (.cons hv .nil), (zip_snoc h k v d).symm⟩
  · rw [q1, q2, if_pos (show (some v').isSome = true from rfl), if_pos (show (some d').isSome = true from rfl)]
    exact zip_mapU k hv h
def ownK (env : MEnv) (i : Nat) : Option (SV × List (PyData × PyData)) := (env[i]?).bind fun x => match x with
  | .own (.dict ds) => some (x, ds)
  | .ref (.dict ds) => some (x, ds)
  | _ => none
theorem ownK_some {env : MEnv} {i : Nat} {x : SV} {ds : List (PyData × PyData)} (h : ownK env i = some (x, ds)) : env[i]? = some x ∧ x.isOwn = some (.dict ds) := by
  obtain ⟨y, e, h⟩ := bind_some h
  split at h
  · cases h; exact ⟨e, rfl⟩
  · cases h; exact ⟨e, rfl⟩
  · cases h
/-- o[i] = e, the slot o holds an owned dict -/
def sSetKey (o : Nat) (mi me : ME) : MS := fun env => (me env).bind fun p => (ownK p.1 o).bind fun _ => (mi p.1).bind fun q => (q.2.view q.1).bind fun kd => (keyOf kd).bind fun k => (p.2.fix q.1).bind fun s => (ownK s.1 o).bind fun w =>
  if flatKs w.2 = true ∧ w.2.length < lineN then some (.nx (s.1.set o (w.1.put (.dict (putKD w.2 k s.2))))) else none
section
variable {X : Cx} {oe ie e : Expr} {o : Nat} {mi me : ME} {pos spos apos cpos : Pos}
theorem own_dict_at {K : PySem.W.Frag} {F H : Hp} {a : Addr} {kvs : List (PyData × PyData)} (c : OwnC K F H a (.dict kvs)) (hf : flatKs kvs = true) (sm : Same F H) : ∃ (ks : List (Key × V)) (ds : List PyData), H a = some (.dK ks) ∧ RpAll K F (ks.map (·.2)) ds ∧ kvs = (ks.map fun p => keyD p.1).zip ds := by
  obtain ⟨a', ks, ds, e, h1, h2, h3⟩ := dict_at (K := K) (v := .ref a) (.inr ⟨a, rfl, c⟩) sm hf
  cases e
  exact ⟨ks, ds, h1, h2, h3⟩
theorem setKey_to {K : PySem.W.Frag} {D : Ends} {σ : L2.St} {H : Hp} (h : tS K (sSetKey o mi me) D σ H) : tAsg (tE K me) (gSub (tVar o) (tE K mi) rSetD) D σ H := by
  obtain ⟨F, env, A, out, em, k⟩ := h
  obtain ⟨⟨env1, r1⟩, e1, em⟩ := bind_some em
  obtain ⟨⟨x0, ds0⟩, e0, em⟩ := bind_some em
  obtain ⟨⟨env2, r2⟩, e2, em⟩ := bind_some em
  obtain ⟨kd, e3, em⟩ := bind_some em
  obtain ⟨key, e7, em⟩ := bind_some em
  obtain ⟨⟨env3, d⟩, e4, em⟩ := bind_some em
  obtain ⟨⟨x, kvs⟩, e5, em⟩ := bind_some em
  split at em
  case isFalse => cases em
  rename_i hc
  cases em
  refine ⟨F, env, A, env1, r1, e1, fun v F1 H1 A1 f1 o1 n1 => ?_⟩
  obtain ⟨g1, g2⟩ := ownK_some e0
  obtain ⟨a, ha, _, _⟩ := A1.own (a := 0) g1 g2
  refine ⟨.ref a, ha, F1, env1, A1, env2, r2, e2, fun u F2 H2 A2 f2 o2 n2 => ?_⟩
  have ku := key_rel (RV.ok.rk o2 A2 e3) e7
  subst ku
  obtain ⟨F3, A3, f3, rd, s3⟩ := fix_one A2 (f1.trans f2) (RV.ok.keep o1 f2) n1 e4
  obtain ⟨g3, g4⟩ := ownK_some e5
  obtain ⟨a', ha', fa', cx⟩ := A3.own (a := 0) g3 g4
  rw [ha] at ha'
  cases ha'
  obtain ⟨ks, ds, hx, rx, ez⟩ := own_dict_at cx hc.1 A3.same
  subst ez
  obtain ⟨ds', q1, q2⟩ := put_rel key rd rx
  have hl : ks.length < sizeLine := by
    have := hc.2
    dsimp only at this
    rw [List.length_zip, List.length_map, ← rx.length, List.length_map, Nat.min_self] at this
    rw [← lineN_eq]
    exact this
  refine ⟨a, upd H2 a (.dK (putK ks key v)), rfl, .k hx hl, ?_⟩
  obtain ⟨A4, f4⟩ := put_own (d' := .dict (putKD ((ks.map fun p => keyD p.1).zip ds) key d)) (o := .dK (putK ks key v)) A3 g3 g4 ha (.inl ⟨putK ks key v, ds', upd_same, q1, q2⟩)
  exact k σ F3 _ A4 (f3.trans f4)
theorem rs_setKey (hu : X.A.units + 65 < cLine) (ho : PE X oe (tVar o)) (hi : PE X ie (tE X.K mi)) (he : PE X e (tE X.K me)) (ha : ∀ v, assign (.Subscript oe ie spos) X.env v = (do
      let ov ← holding [v] (eval oe X.env)
      let iv ← holding [v, ov] (eval ie X.env)
      standAt spos
      holding [v, ov, iv] (setItem ov iv v)
      release [v, ov, iv] []) := by intro _; rfl) (hs : swapsWithSole [.Subscript oe ie spos] e pos.line X.env = pure false := by rfl) (hw : swappedStores [.Subscript oe ie spos] e X.env = pure none := by rfl)
    (h1 : (assignEach [.Subscript oe ie spos] X.env).map (·.2) = [assign (.Subscript oe ie spos) X.env] := by rfl) : PS X (.Assign [.Subscript oe ie spos] e pos) (tS X.K (sSetKey o mi me)) :=
  ps_imp (ps_asg he (pg_sub ho hi (set_dict (by omega)) ha) hs hw h1) fun _ _ _ => setKey_to
end
/-! ### get -/
def dictOf : PyData → Option (List (PyData × PyData))
  | .dict kvs => if flatKs kvs = true then some kvs else none
  | _ => none
theorem dictOf_some {d : PyData} {kvs : List (PyData × PyData)} (h : dictOf d = some kvs) : d = .dict kvs ∧ flatKs kvs = true := by
  unfold dictOf at h
  split at h
  · split at h
    · cases h
      rename_i hz
      exact ⟨rfl, hz⟩
    · cases h
  · cases h
def eGet1 (md mk : ME) : ME := fun env => (md env).bind fun p => (p.2.view p.1).bind fun d0 => (dictOf d0).bind fun _ => (mk p.1).bind fun q => (p.2.view q.1).bind fun d => (dictOf d).bind fun kvs => (q.2.view q.1).bind fun kd => (keyOf kd).bind fun k => some (q.1, .fz ((findK k kvs).getD .none))
section
variable {X : Cx} {oe ie e f : Expr} {o : Nat} {md mk mx : ME} {pos spos apos cpos : Pos}
theorem get1_to {K : PySem.W.Frag} {σ : L2.St} {H : Hp} {Q : VK} (h : tE K (eGet1 md mk) σ H Q) : tDGet1 (tE K md) (tE K mk) σ H Q := by
  obtain ⟨F, env, A, env', r, em, k⟩ := h
  obtain ⟨⟨env1, r1⟩, e1, em⟩ := bind_some em
  obtain ⟨d0, e2, em⟩ := bind_some em
  obtain ⟨kvs0, e3, em⟩ := bind_some em
  obtain ⟨⟨env2, r2⟩, e4, em⟩ := bind_some em
  obtain ⟨d, e5, em⟩ := bind_some em
  obtain ⟨kvs, e6, em⟩ := bind_some em
  obtain ⟨kd, e7, em⟩ := bind_some em
  obtain ⟨key, e8, em⟩ := bind_some em
  cases em
  refine ⟨F, env, A, env1, r1, e1, fun v F1 H1 A1 f1 o1 n1 => ?_⟩
  obtain ⟨rfl, z3⟩ := dictOf_some e3
  obtain ⟨rfl, z6⟩ := dictOf_some e6
  obtain ⟨a, ks0, ds0, rfl, h1, _, _⟩ := dict_at (RV.ok.rk o1 A1 e2) A1.same z3
  refine ⟨a, rfl, .inl ⟨ks0, .inl h1⟩, F1, env1, A1, env2, r2, e4, fun u F2 H2 A2 f2 o2 n2 => ?_⟩
  obtain ⟨a', ks, ds, ea, h3, h4, h5⟩ := dict_at (RV.ok.rk (RV.ok.keep o1 f2) A2 e5) A2.same z6
  cases ea
  subst h5
  have ku := key_rel (RV.ok.rk o2 A2 e7) e8
  subst ku
  refine ⟨valV ks key, .inl ⟨ks, key, .inl h3, rfl, rfl⟩, ?_⟩
  rcases find_val key h4 with ⟨q1, q2⟩ | ⟨v', d2, q1, q2, q3⟩
  · rw [q1]
    rw [q2] at k
    exact k .non F2 H2 A2 (f1.trans f2) Rp.non trivial
  · rw [q1]
    rw [q2] at k
    exact k v' F2 H2 A2 (f1.trans f2) q3 trivial
theorem re_get1 (hu : X.A.units + 65 < cLine) (ho : PE X oe (tE X.K md)) (he : PE X e (tE X.K mk)) (m : M1 X oe "get" apos e cpos) : PE X (.Call (.Attribute oe "get" apos) [e] [] cpos) (tE X.K (eGet1 md mk)) :=
  pe_imp (pe_dget1 (by omega) ho he m) fun _ _ _ => get1_to
def eGet2 (md mk mx : ME) : ME := fun env => (md env).bind fun p => (p.2.view p.1).bind fun d0 => (dictOf d0).bind fun _ => (mk p.1).bind fun q => (mx q.1).bind fun t => (p.2.view t.1).bind fun d => (dictOf d).bind fun kvs => (q.2.view t.1).bind fun kd => (keyOf kd).bind fun k => match t.2 with
  | .fz z => some (t.1, .fz ((findK k kvs).getD z))
  | _ => none
theorem get2_to {K : PySem.W.Frag} {σ : L2.St} {H : Hp} {Q : VK} (h : tE K (eGet2 md mk mx) σ H Q) : tDGet2 (tE K md) (tE K mk) (tE K mx) σ H Q := by
  obtain ⟨F, env, A, env', r, em, k⟩ := h
  obtain ⟨⟨env1, r1⟩, e1, em⟩ := bind_some em
  obtain ⟨d0, e2, em⟩ := bind_some em
  obtain ⟨kvs0, e3, em⟩ := bind_some em
  obtain ⟨⟨env2, r2⟩, e4, em⟩ := bind_some em
  obtain ⟨⟨env3, r3⟩, e9, em⟩ := bind_some em
  obtain ⟨d, e5, em⟩ := bind_some em
  obtain ⟨kvs, e6, em⟩ := bind_some em
  obtain ⟨kd, e7, em⟩ := bind_some em
  obtain ⟨key, e8, em⟩ := bind_some em
  dsimp only at em
  split at em
  case h_2 => cases em
  rename_i z
  cases em
  refine ⟨F, env, A, env1, r1, e1, fun v F1 H1 A1 f1 o1 n1 => ?_⟩
  obtain ⟨rfl, z3⟩ := dictOf_some e3
  obtain ⟨rfl, z6⟩ := dictOf_some e6
  obtain ⟨a, ks0, ds0, rfl, h1, _, _⟩ := dict_at (RV.ok.rk o1 A1 e2) A1.same z3
  refine ⟨a, rfl, .inl ⟨ks0, .inl h1⟩, F1, env1, A1, env2, r2, e4, fun u F2 H2 A2 f2 o2 n2 => ⟨F2, env2, A2, _, _, e9, fun t F3 H3 A3 f3 o3 n3 => ?_⟩⟩
  obtain ⟨a', ks, ds, ea, h3, h4, h5⟩ := dict_at (RV.ok.rk (RV.ok.keep (RV.ok.keep o1 f2) f3) A3 e5) A3.same z6
  cases ea
  subst h5
  have ku := key_rel (RV.ok.rk (RV.ok.keep o2 f3) A3 e7) e8
  subst ku
  refine ⟨valV ks key, .inl ⟨ks, key, .inl h3, rfl, rfl⟩, ?_⟩
  rcases find_val key h4 with ⟨q1, q2⟩ | ⟨v', d2, q1, q2, q3⟩
  · rw [q1]
    rw [q2] at k
    exact k t F3 H3 A3 ((f1.trans f2).trans f3) o3 trivial
  · rw [q1]
    rw [q2] at k
    exact k v' F3 H3 A3 ((f1.trans f2).trans f3) q3 trivial
theorem re_get2 (hu : X.A.units + 65 < cLine) (ho : PE X oe (tE X.K md)) (he : PE X e (tE X.K mk)) (hf : PE X f (tE X.K mx)) (m : M2 X oe "get" apos e f cpos) : PE X (.Call (.Attribute oe "get" apos) [e, f] [] cpos) (tE X.K (eGet2 md mk mx)) :=
  pe_imp (pe_dget2 (by omega) ho he hf m) fun _ _ _ => get2_to
end
/-! ### dict(list of pairs) -/
def pairsOf : List PyData → Option (List Key × List PyData)
  | [] => some ([], [])
  | .tuple [k, v] :: ds => (keyOf k).bind fun k => (pairsOf ds).bind fun q => some (k :: q.1, v :: q.2)
  | _ => none
def dictPD : List PyData → Option RV
  | [.list ds] => (pairsOf ds).bind fun q => if q.1.Nodup then some (.own (.dict ((q.1.map keyD).zip q.2))) else none
  | _ => none
theorem pairs_rel {K : PySem.W.Frag} {F H : Hp} (sm : Same F H) : ∀ {ds : List PyData} {xs : List V} {ks : List Key} {vs : List PyData}, RpAll K F xs ds → pairsOf ds = some (ks, vs) →
    ∃ (ps : List Addr) (kvs : List (Key × V)), xs = ps.map V.ref ∧ Paired (fun p kv => SqT K H p [kV kv.1, kv.2]) ps kvs ∧ kvs.map (·.1) = ks ∧ RpAll K F (kvs.map (·.2)) vs
  | [], _, _, _, h, e => by cases h; cases e; exact ⟨[], [], rfl, .nil, rfl, .nil⟩
  | .tuple [k, v] :: ds, _, _, _, h, e => by
    obtain ⟨key, e1, e⟩ := bind_some e
    obtain ⟨⟨ks', vs'⟩, e2, e⟩ := bind_some e
    cases e
    cases h with
    | cons a t =>
      obtain ⟨ps, kvs, q1, q2, q3, q4⟩ := pairs_rel sm t e2
      cases a with
      | tup hq hr =>
        cases hr with
        | cons ra hr =>
          cases hr with
          | cons rb hr =>
            cases hr
            have ka := key_rel (K := K) (F := F) (H := H) (.inl ra) e1
            subst ka
            exact ⟨_ :: ps, (key, _) :: kvs, by rw [q1]; rfl, .cons (SqT.of (sm _ _ hq)) q2, by rw [List.map_cons, q3], .cons rb q4⟩
  | .tuple [] :: _, _, _, _, _, e => by cases e
  | .tuple [_] :: _, _, _, _, _, e => by cases e
  | .tuple (_ :: _ :: _ :: _) :: _, _, _, _, _, e => by cases e
  | .none :: _, _, _, _, _, e => by cases e
  | .bool _ :: _, _, _, _, _, e => by cases e
  | .int _ :: _, _, _, _, _, e => by cases e
  | .str _ :: _, _, _, _, _, e => by cases e
  | .list _ :: _, _, _, _, _, e => by cases e
  | .dict _ :: _, _, _, _, _, e => by cases e
theorem c_dictP {X : Cx} (hc : X.calm = true) : CallR X (.type "dict") (rCall X.K dictPD) := by
  intro pins s σ H xs us Q I r ⟨F, ds, rv, sm, kx, hf, g⟩
  unfold dictPD at hf
  split at hf
  case h_2 => cases hf
  obtain ⟨⟨ks, vs⟩, e1, hf⟩ := bind_some hf
  split at hf
  case isFalse => cases hf
  rename_i hn
  cases hf
  obtain ⟨v, rfl, rk⟩ := rk1 kx
  obtain ⟨a, ys, rfl, q, rp⟩ := rk.lst sm
  obtain ⟨ps, kvs, q1, q2, q3, q4⟩ := pairs_rel sm rp e1
  subst q1
  refine call_dictP hc pins s σ H _ us Q I r ⟨a, ps, kvs, rfl, q, q2, fun p hp => ?_⟩
  have hn' : ((([] : List (Key × V)) ++ kvs).map (·.1)).Nodup := by rw [List.nil_append, q3]; exact hn
  rw [merge_fresh kvs [] hn', List.nil_append]
  have sH : Same H (upd H p (.dK kvs)) := fun b o h => by rw [upd_ne (ne_of_none h hp)]; exact h
  have fp := sm.free hp
  exact g (.ref p) F _ (Same.refl F) sH (sm.trans sH) (fun _ _ h => .inl h) ⟨p, rfl, hp, fp, .inl ⟨kvs, vs, upd_same, q4, by rw [← q3, List.map_map]; rfl⟩⟩
end L3

/-! L3V: steps of dicts, of while, the list turned about. -/
namespace L3
open PySem PySem.Spec PyProof.Rows L2
section
variable {X : Cx} {e : Expr} {m : ME} {pos : Pos}
/-- m[::-1] of a list -/
def eRev (m : ME) : ME := fun env => (m env).bind fun p => (p.2.view p.1).bind fun d => match d with
  | .list ds => some (p.1, .own (.list ds.reverse))
  | _ => none
theorem re_rev {k : Nat} {p1 p2 p3 : Pos} (he : PE X e (tE X.K m)) : PE X (.Subscript e (.Slice none none (some (.UnaryOp .USub (.Constant (.int 1) k p1) p2)) p3) pos) (tE X.K (eRev m)) := by
  refine pe_imp (pe_revL he) fun σ H Q ⟨F, env, A, env', r, em, kk⟩ => ?_
  obtain ⟨⟨env1, r1⟩, e1, em⟩ := bind_some em
  obtain ⟨d, e2, em⟩ := bind_some em
  dsimp only at em
  split at em
  case h_2 => cases em
  rename_i ds
  cases em
  refine ⟨F, env, A, _, r1, e1, fun v F1 H1 A1 f1 o1 n1 => ?_⟩
  obtain ⟨a, xs, rfl, h1, h2⟩ := (RV.ok.rk o1 A1 e2).lst A1.same
  exact ⟨a, xs, rfl, h1, fun p hp => (gives_to A1 f1 kk).newList A1.same h2.reverse hp⟩
end
section
variable {e : MEnv} {i o n : Nat} {d kd : PyData} {ds : List PyData} {kvs : List (PyData × PyData)} {x : SV} {r r2 : RV} {b : Bool} {P : Out → Prop} {Pe : MEnv → RV → Prop} {m mi me md mk mx : ME} {k : Key} {t : MT} {body : MS} {z : Str} {j : Int} {J : MEnv → Prop}
def kRev (P : MEnv → RV → Prop) (e : MEnv) : PyData → Prop
  | .list ds => P e (.own (.list ds.reverse))
  | _ => False
def kRev0 (P : MEnv → RV → Prop) (e : MEnv) (r : RV) : Prop := WV r e (kRev P e)
theorem we_rev : WE (eRev m) e Pe ↔ WE m e (kRev0 Pe) := by
  simp only [WE, WV, eRev, kRev0, wp_bind]
  refine ⟨fun h => Wp.imp h fun p h => Wp.imp h fun d h => ?_, fun h => Wp.imp h fun p h => Wp.imp h fun d h => ?_⟩
  · cases d <;> first | exact (wp_some.mp h :) | exact (wp_none.mp h).elim
  · cases d <;> first | exact wp_some.mpr h | exact h.elim
theorem kRev0_eq : kRev0 Pe e r ↔ WV r e (kRev Pe e) := Iff.rfl
theorem kRev_l : kRev Pe e (.list ds) ↔ Pe e (.own (.list ds.reverse)) := Iff.rfl
def WK (e : MEnv) (i : Nat) (P : SV × List (PyData × PyData) → Prop) : Prop := Wp (ownK e i) P
def kOwnK (P : SV × List (PyData × PyData) → Prop) : SV → Prop
  | .own (.dict ds) => P (.own (.dict ds), ds)
  | .ref (.dict ds) => P (.ref (.dict ds), ds)
  | _ => False
theorem wk_eq {Q : SV × List (PyData × PyData) → Prop} : WK e i Q ↔ WX e i (kOwnK Q) := by
  unfold WK WX ownK
  rw [wp_bind]
  refine ⟨fun h => Wp.imp h fun x h => ?_, fun h => Wp.imp h fun x h => ?_⟩
  · cases x with
    | own d => cases d <;> first | exact (wp_some.mp h :) | exact (wp_none.mp h).elim
    | ref d => cases d <;> first | exact (wp_some.mp h :) | exact (wp_none.mp h).elim
    | _ => exact (wp_none.mp h).elim
  · cases x with
    | own d => cases d <;> first | exact wp_some.mpr h | exact h.elim
    | ref d => cases d <;> first | exact wp_some.mpr h | exact h.elim
    | _ => exact h.elim
theorem kOwnK_own {Q : SV × List (PyData × PyData) → Prop} : kOwnK Q (.own (.dict kvs)) ↔ Q (.own (.dict kvs), kvs) := Iff.rfl
theorem kOwnK_ref {Q : SV × List (PyData × PyData) → Prop} : kOwnK Q (.ref (.dict kvs)) ↔ Q (.ref (.dict kvs), kvs) := Iff.rfl
def kSK6 (o : Nat) (k : Key) (d : PyData) (P : Out → Prop) (e : MEnv) (w : SV × List (PyData × PyData)) : Prop := (flatKs w.2 = true ∧ w.2.length < lineN) ∧ P (.nx (e.set o (w.1.put (.dict (putKD w.2 k d)))))
def kSK5 (o : Nat) (k : Key) (P : Out → Prop) (e : MEnv) (d : PyData) : Prop := WK e o (kSK6 o k d P e)
def kSK4 (o : Nat) (r : RV) (P : Out → Prop) (e : MEnv) (kd : PyData) : Prop := ∃ k, keyOf kd = some k ∧ WF r e (kSK5 o k P)
def kSK3 (o : Nat) (r : RV) (P : Out → Prop) (e : MEnv) (r2 : RV) : Prop := WV r2 e (kSK4 o r P e)
def kSK2 (o : Nat) (mi : ME) (r : RV) (P : Out → Prop) (e : MEnv) (w : SV × List (PyData × PyData)) : Prop := WE mi e (kSK3 o r P)
def kSK1 (o : Nat) (mi : ME) (P : Out → Prop) (e : MEnv) (r : RV) : Prop := WK e o (kSK2 o mi r P e)
theorem ws_setKey : WS (sSetKey o mi me) e P ↔ WE me e (kSK1 o mi P) := by
  simp only [WS, sSetKey, wp_bind, wp_guard, wp_some]
  exact Iff.rfl
theorem kSK1_eq : kSK1 o mi P e r ↔ WK e o (kSK2 o mi r P e) := Iff.rfl
theorem kSK2_eq {w : SV × List (PyData × PyData)} : kSK2 o mi r P e w ↔ WE mi e (kSK3 o r P) := Iff.rfl
theorem kSK3_eq : kSK3 o r P e r2 ↔ WV r2 e (kSK4 o r P e) := Iff.rfl
theorem kSK4_s : kSK4 o r P e (.str z) ↔ WF r e (kSK5 o (.inr z) P) := ⟨fun ⟨_, h1, h2⟩ => by cases h1; exact h2, fun h => ⟨_, rfl, h⟩⟩
theorem kSK4_i : kSK4 o r P e (.int j) ↔ WF r e (kSK5 o (.inl j) P) := ⟨fun ⟨_, h1, h2⟩ => by cases h1; exact h2, fun h => ⟨_, rfl, h⟩⟩
theorem kSK5_eq : kSK5 o k P e d ↔ WK e o (kSK6 o k d P e) := Iff.rfl
theorem kSK6_eq : kSK6 o k d P e (x, kvs) ↔ (flatKs kvs = true ∧ kvs.length < lineN) ∧ P (.nx (e.set o (x.put (.dict (putKD kvs k d))))) := Iff.rfl
def kG5 (kvs : List (PyData × PyData)) (P : MEnv → RV → Prop) (e : MEnv) (kd : PyData) : Prop := ∃ k, keyOf kd = some k ∧ P e (.fz ((findK k kvs).getD .none))
def kG4 (r2 : RV) (P : MEnv → RV → Prop) (e : MEnv) (d : PyData) : Prop := ∃ kvs, dictOf d = some kvs ∧ WV r2 e (kG5 kvs P e)
def kG3 (r : RV) (P : MEnv → RV → Prop) (e : MEnv) (r2 : RV) : Prop := WV r e (kG4 r2 P e)
def kG2 (r : RV) (mk : ME) (P : MEnv → RV → Prop) (e : MEnv) (d : PyData) : Prop := ∃ kvs, dictOf d = some kvs ∧ WE mk e (kG3 r P)
def kG1 (mk : ME) (P : MEnv → RV → Prop) (e : MEnv) (r : RV) : Prop := WV r e (kG2 r mk P e)
theorem we_get1 : WE (eGet1 md mk) e Pe ↔ WE md e (kG1 mk Pe) := by
  simp only [WE, eGet1, wp_bind, wp_some]
  exact Iff.rfl
theorem kG1_eq : kG1 mk Pe e r ↔ WV r e (kG2 r mk Pe e) := Iff.rfl
theorem kG2_d : kG2 r mk Pe e (.dict kvs) ↔ flatKs kvs = true ∧ WE mk e (kG3 r Pe) := by
  constructor
  · rintro ⟨kvs', h1, h2⟩
    obtain ⟨h3, h4⟩ := dictOf_some h1
    exact ⟨by cases h3; exact h4, h2⟩
  · rintro ⟨h1, h2⟩
    exact ⟨kvs, if_pos h1, h2⟩
theorem kG3_eq : kG3 r Pe e r2 ↔ WV r e (kG4 r2 Pe e) := Iff.rfl
theorem kG4_d : kG4 r2 Pe e (.dict kvs) ↔ flatKs kvs = true ∧ WV r2 e (kG5 kvs Pe e) := by
  constructor
  · rintro ⟨kvs', h1, h2⟩
    obtain ⟨h3, h4⟩ := dictOf_some h1
    cases h3
    exact ⟨h4, h2⟩
  · rintro ⟨h1, h2⟩
    exact ⟨kvs, if_pos h1, h2⟩
theorem kG5_s : kG5 kvs Pe e (.str z) ↔ Pe e (.fz ((findK (.inr z) kvs).getD .none)) := ⟨fun ⟨_, h1, h2⟩ => by cases h1; exact h2, fun h => ⟨_, rfl, h⟩⟩
theorem kG5_i : kG5 kvs Pe e (.int j) ↔ Pe e (.fz ((findK (.inl j) kvs).getD .none)) := ⟨fun ⟨_, h1, h2⟩ => by cases h1; exact h2, fun h => ⟨_, rfl, h⟩⟩
def kH5 (kvs : List (PyData × PyData)) (z : PyData) (P : MEnv → RV → Prop) (e : MEnv) (kd : PyData) : Prop := ∃ k, keyOf kd = some k ∧ P e (.fz ((findK k kvs).getD z))
def kH4 (r2 : RV) (z : PyData) (P : MEnv → RV → Prop) (e : MEnv) (d : PyData) : Prop := ∃ kvs, dictOf d = some kvs ∧ WV r2 e (kH5 kvs z P e)
def kH3b (r r2 : RV) (P : MEnv → RV → Prop) (e : MEnv) : RV → Prop
  | .fz z => WV r e (kH4 r2 z P e)
  | _ => False
def kH3 (r : RV) (mx : ME) (P : MEnv → RV → Prop) (e : MEnv) (r2 : RV) : Prop := WE mx e (kH3b r r2 P)
def kH2 (r : RV) (mk mx : ME) (P : MEnv → RV → Prop) (e : MEnv) (d : PyData) : Prop := ∃ kvs, dictOf d = some kvs ∧ WE mk e (kH3 r mx P)
def kH1 (mk mx : ME) (P : MEnv → RV → Prop) (e : MEnv) (r : RV) : Prop := WV r e (kH2 r mk mx P e)
theorem we_get2 : WE (eGet2 md mk mx) e Pe ↔ WE md e (kH1 mk mx Pe) := by
  simp only [WE, WV, eGet2, kH1, wp_bind]
  refine ⟨fun h => Wp.imp h fun p h => Wp.imp h fun d h => ?_, fun h => Wp.imp h fun p h => Wp.imp h fun d h => ?_⟩
  · obtain ⟨kvs, h1, h⟩ := h
    refine ⟨kvs, h1, Wp.imp h fun q h => Wp.imp h fun t h => ?_⟩
    obtain ⟨t1, t2⟩ := t
    obtain ⟨d2, g1, kvs2, g2, kd, g3, k, g4, h⟩ := h
    cases t2 with
    | fz z => exact ⟨d2, g1, kvs2, g2, kd, g3, k, g4, (wp_some.mp h :)⟩
    | own _ => exact (wp_none.mp h).elim
    | plc _ => exact (wp_none.mp h).elim
  · obtain ⟨kvs, h1, h⟩ := h
    refine ⟨kvs, h1, Wp.imp h fun q h => Wp.imp h fun t h => ?_⟩
    obtain ⟨t1, t2⟩ := t
    cases t2 with
    | fz z =>
      obtain ⟨d2, g1, kvs2, g2, kd, g3, k, g4, h⟩ := h
      exact ⟨d2, g1, kvs2, g2, kd, g3, k, g4, wp_some.mpr h⟩
    | own _ => exact h.elim
    | plc _ => exact h.elim
theorem kH1_eq : kH1 mk mx Pe e r ↔ WV r e (kH2 r mk mx Pe e) := Iff.rfl
theorem kH2_d : kH2 r mk mx Pe e (.dict kvs) ↔ flatKs kvs = true ∧ WE mk e (kH3 r mx Pe) := by
  constructor
  · rintro ⟨kvs', h1, h2⟩
    obtain ⟨h3, h4⟩ := dictOf_some h1
    exact ⟨by cases h3; exact h4, h2⟩
  · rintro ⟨h1, h2⟩
    exact ⟨kvs, if_pos h1, h2⟩
theorem kH3_eq : kH3 r mx Pe e r2 ↔ WE mx e (kH3b r r2 Pe) := Iff.rfl
theorem kH3b_eq : kH3b r r2 Pe e (.fz d) ↔ WV r e (kH4 r2 d Pe e) := Iff.rfl
theorem kH4_d : kH4 r2 d Pe e (.dict kvs) ↔ flatKs kvs = true ∧ WV r2 e (kH5 kvs d Pe e) := by
  constructor
  · rintro ⟨kvs', h1, h2⟩
    obtain ⟨h3, h4⟩ := dictOf_some h1
    cases h3
    exact ⟨h4, h2⟩
  · rintro ⟨h1, h2⟩
    exact ⟨kvs, if_pos h1, h2⟩
theorem kH5_s : kH5 kvs d Pe e (.str z) ↔ Pe e (.fz ((findK (.inr z) kvs).getD d)) := ⟨fun ⟨_, h1, h2⟩ => by cases h1; exact h2, fun h => ⟨_, rfl, h⟩⟩
theorem kH5_i : kH5 kvs d Pe e (.int j) ↔ Pe e (.fz ((findK (.inl j) kvs).getD d)) := ⟨fun ⟨_, h1, h2⟩ => by cases h1; exact h2, fun h => ⟨_, rfl, h⟩⟩
theorem ixD_ds : ixD (.dict kvs) (.str z) = if flatKs kvs = true then (findK (.inr z) kvs).bind fun d => some (.fz d) else none := rfl
theorem ixD_di : ixD (.dict kvs) (.int j) = if flatKs kvs = true then (findK (.inl j) kvs).bind fun d => some (.fz d) else none := rfl
theorem inD_ds : inD (.str z) (.dict kvs) = if flatKs kvs = true then some (.fz (.bool (findK (.inr z) kvs).isSome)) else none := rfl
theorem inD_di : inD (.int j) (.dict kvs) = if flatKs kvs = true then some (.fz (.bool (findK (.inl j) kvs).isSome)) else none := rfl
theorem notInD_ds : notInD (.str z) (.dict kvs) = if flatKs kvs = true then some (.fz (.bool (!(findK (.inr z) kvs).isSome))) else none := rfl
theorem notInD_di : notInD (.int j) (.dict kvs) = if flatKs kvs = true then some (.fz (.bool (!(findK (.inl j) kvs).isSome))) else none := rfl
theorem dictPD_l : dictPD [.list ds] = (pairsOf ds).bind fun q => if q.1.Nodup then some (.own (.dict ((q.1.map keyD).zip q.2))) else none := rfl
/-- while -/
def kWh (body : MS) (J : MEnv → Prop) (P : Out → Prop) (e : MEnv) (b : Bool) : Prop := if b = true then WS body e (kLoop J P) else P (.nx e)
theorem kWh_t : kWh body J P e true ↔ WS body e (kLoop J P) := by simp [kWh]
theorem kWh_f : kWh body J P e false ↔ P (.nx e) := by simp [kWh]
theorem kWh_i (h : b = true → WS body e (kLoop J P)) (h' : b = false → P (.nx e)) : kWh body J P e b := by
  cases b with
  | true => exact kWh_t.mpr (h rfl)
  | false => exact kWh_f.mpr (h' rfl)
theorem ws_while : WS (sWhile n t body) e P ↔ Wp (whileLoop t body n e) P := Iff.rfl
theorem wwhile_step : Wp (whileLoop t body (n + 1) e) P ↔ WT t e (kWh body (fun e => Wp (whileLoop t body n e) P) P) := by
  simp only [whileLoop, WT, wp_bind, wp_ite']
  refine ⟨fun h => Wp.imp h fun p h => ?_, fun h => Wp.imp h fun p h => ?_⟩
  · unfold kWh
    split
    · rename_i hp
      rw [if_pos hp] at h
      refine Wp.imp (Q := kLoop _ P) h fun o h => ?_
      cases o <;> first | exact h | exact (wp_some.mp h :)
    · rename_i hp
      rw [if_neg hp] at h
      exact (wp_some.mp h :)
  · unfold kWh at h
    split
    · rename_i hp
      rw [if_pos hp] at h
      refine Wp.imp h fun o h => ?_
      cases o <;> first | exact h | exact wp_some.mpr h
    · rename_i hp
      rw [if_neg hp] at h
      exact wp_some.mpr h
/-- by an invariant with a number that falls -/
theorem wwhile (I : Nat → MEnv → Prop) (k : Nat) (h0 : I k e) (hk : k < n) (hs : ∀ k e, I k e → WT t e (kWh body (fun e => ∃ j, j < k ∧ I j e) P)) : Wp (whileLoop t body n e) P := by
  induction n generalizing k e with
  | zero => omega
  | succ n ih =>
    rw [wwhile_step]
    refine WT.imp (hs k e h0) fun e1 b h => ?_
    unfold kWh at h ⊢
    split
    · rename_i hb
      rw [if_pos hb] at h
      refine WS.imp h fun o h => kLoop.imp (fun e2 ⟨j, hj, q⟩ => ih j q (by omega)) h
    · rename_i hb
      rw [if_neg hb] at h
      exact h
end
end L3

/-! L3W: a dict display of one pair, its key a tuple. -/
namespace L3
open PySem PySem.Spec PyProof.Rows L2
section
variable {prog : Program} {w : World} {Kt : Type} [DecidableEq Kt] {knd : HeapKind prog w Kt} {A : Around} {E : Value → Shared → Prop} {s : Shared}
theorem wpAny_Dict_pairsH2 {env : Env} {keys : List (Option Expr)} {values : List Expr} {pos : Pos} {pairs : List (Sem Value × Sem Value)} {Q : Value → Shared → Prop} (hu : knd.room A)
    (hshape : (evalEachOpt keys env).zip ((evalEach values env).map fun v => do let x ← v; standAt pos; pure x) = pairs.map fun p => (some p.1, p.2)) (h0 : pairs ≠ []) (hlen : pairs.length ≤ 15)
    (h : wpAny (model prog w) A (evalPairs pairs) (fun vs s₁ => ∃ ps, CarriesH knd s₁.heap vs ps ∧ s₁.heap.DictOfH knd s.heap.objs.size [] ∧
      ∀ h' tk, h'.DictOfH knd s.heap.objs.size (storedAllH [] ps) → Heap.SameBut s.heap.objs.size s₁.heap h' → Q (.ref s.heap.objs.size) { s₁ with heap := h', toks := tk }) E
      { s with heap := s.heap.push { cls := .type "dict", data := .dict #[] } }) :
    wpAny (model prog w) A (eval (.Dict keys values pos) env) Q E s := by
  rw [arm_eval_Dict, hshape, dictDisplay_pairs pairs h0 (by omega)]
  exact PySem.wpAny_bind (wpAny_standAt (PySem.wpAny_bind (wpAny_subDictH (knd := knd) (Q := fun d s' => wpAny (model prog w) A (pure (Value.ref d)) Q E s') hu hlen
    (wpAny_mono h (fun vs s₁ h₁ => by obtain ⟨ps, hc, hm, hq⟩ := h₁; exact ⟨ps, hc, hm, fun h' tk a b => wpAny_pure (hq h' tk a b)⟩) fun _ _ e => e))))
end

section
variable {X : Cx} {pos : Pos} {keys : List (Option Expr)} {values : List Expr} {trs : List (TE × TE)}
def tDispT (trs : List (TE × TE)) : TE := fun σ H Q => ∀ p, H p = none → tPairs trs σ (upd H p (.dT [])) fun ps H2 => H2 p = some (.dT []) ∧ ∃ b ks v, ps = [(V.ref b, v)] ∧ H2 b = some (.tup (ks.map kV)) ∧ Q (.ref p) (upd H2 p (.dT [(ks, v)]))
theorem pe_dispT (hu : X.A.units + 1 < cLine) (h : PPs X pos keys values trs) (hall : keys.all (·.isSome) = true) (hl : keys.length = values.length) (h0 : keys ≠ [])
    (h15 : keys.length ≤ 15) : PE X (.Dict keys values pos) (tDispT trs) := by
  refine ⟨fun pins s σ H Q I q => ?_⟩
  have hn := I.hok.fresh (Nat.le_refl s.heap.objs.size)
  have I1 := I.laid (a := s.heap.objs.size) (o := .dT []) (h' := s.heap.push { cls := .type "dict", data := .dict #[] }) (t' := s.toks) (fun _ _ q => Heap.get?_push_of_some _ q) (Nat.le_refl _) (dt_empty s.heap I.big)
  have hnl := pairTrees_length keys values X.env pos hall hl
  refine wpAny_Dict_pairsH2 (knd := tupleKind (mixKind X.prog X.w)) (pairs := pairTrees keys values X.env pos) (show X.A.units < cLine by omega) (zip_pairTrees keys values X.env pos hall hl) (fun he => ?_) (by rw [hnl]; exact h15) (thn (h.run pins _ σ _ _ I1 (q _ hn)) fun ws s2 ⟨ps, H2, I2, rel, e, b, ks, v, ep, eb, q2⟩ => ?_)
  · rw [he] at hnl
    exact h0 (List.length_eq_zero_iff.mp hnl.symm)
  subst ep
  cases rel with
  | @cons p0 p as bs hp t =>
  cases t
  obtain ⟨r1, r2⟩ := p
  cases (show r1 = Value.ref b from hp.1)
  obtain ⟨z, hd, xs0, r0, dd⟩ := dt_of I2.hok e
  cases r0
  refine ⟨[(ks, b, r2)], ⟨rfl, rfl, key_of I2.hok eb, True.intro⟩, dd, fun h' tk dd' hs => ⟨.ref s.heap.objs.size, _, ?_, rfl, q2⟩⟩
  obtain ⟨o, es, ep, hq, h2, h3, h4, _, h5⟩ := dd'
  refine d_write I2 (by rw [e]; exact True.intro) hs ⟨o, hq⟩ ⟨by rw [sizeLine_eq]; simp, hd, [(ks, b, r2)], .cons ⟨rfl, ?_, hp.2⟩ .nil, o, es, ep, hq, h2, h3, h4, h5⟩
  rw [upd_ne (ne_of eb e (fun z => nomatch z))]
  exact eb
end

/-- one pair, its key a tuple of numbers and texts -/
def keysOf : List PyData → Option (List Key)
  | [] => some []
  | d :: r => (keyOf d).bind fun k => (keysOf r).bind fun ks => some (k :: ks)
def oneT : List PyData → Option (List Key × PyData)
  | [.tuple ds, v] => (keysOf ds).bind fun ks => some (ks, v)
  | _ => none
def eDictT (ps : List (ME × ME)) : ME := fun env => (aPairs ps env).bind fun p => (fixAll p.1 p.2).bind fun q => (oneT q.2).bind fun kv => some (q.1, .own (.dict [(.tuple (kv.1.map keyD), kv.2)]))
theorem keys_rel {K : PySem.W.Frag} {F : Hp} : ∀ {ds : List PyData} {vs : List V} {ks : List Key}, RpAll K F vs ds → keysOf ds = some ks → vs = ks.map kV ∧ ds = ks.map keyD
  | [], _, _, h, e => by cases h; cases e; exact ⟨rfl, rfl⟩
  | d :: ds, _, _, h, e => by
    cases h with
    | cons hd h =>
      obtain ⟨k, e1, e⟩ := bind_some e
      obtain ⟨ks, e2, e⟩ := bind_some e
      cases e
      obtain ⟨q1, q2⟩ := keys_rel h e2
      have e3 := keyOf_some e1
      subst e3
      refine ⟨?_, by rw [List.map_cons, q2]⟩
      rw [List.map_cons, q1]
      congr 1
      cases k <;> (cases hd; rfl)
theorem oneT_some {ds : List PyData} {kv : List Key × PyData} (h : oneT ds = some kv) : ∃ d, ds = [.tuple d, kv.2] ∧ keysOf d = some kv.1 := by
  unfold oneT at h
  split at h
  · obtain ⟨ks, e, h⟩ := bind_some h
    cases h
    exact ⟨_, rfl, e⟩
  · cases h
section
variable {X : Cx} {pos : Pos} {keys : List (Option Expr)} {values : List Expr} {ps : List (ME × ME)}
theorem dispT_to {K : PySem.W.Frag} {σ : L2.St} {H : Hp} {Q : VK} (h : tE K (eDictT ps) σ H Q) : tDispT (ps.map fun p => (tE K p.1, tE K p.2)) σ H Q := by
  obtain ⟨F, env, A, env', r, em, k⟩ := h
  obtain ⟨⟨env1, rs⟩, e1, em⟩ := bind_some em
  obtain ⟨⟨env2, ds⟩, e2, em⟩ := bind_some em
  obtain ⟨⟨ks, w⟩, e3, em⟩ := bind_some em
  cases em
  obtain ⟨d, e4, e5⟩ := oneT_some e3
  cases (show ds = _ from e4)
  intro p hp
  have sH : Same H (upd H p (.dT [])) := fun b o q => by rw [upd_ne (ne_of_none q hp)]; exact q
  obtain ⟨A0, f0⟩ := grow A (Same.refl F) sH (A.same.trans sH) fun _ _ h => .inl h
  have np : ¬ Owns σ env p := fun z => by
    obtain ⟨_, o, ho⟩ := A.ownsF z
    rw [hp] at ho; cases ho
  refine pairs_to ⟨F, env, A0, env1, rs, e1, fun us F1 H1 A1 f1 o1 n1 pv epv => ?_⟩
  subst epv
  obtain ⟨F2, A2, f2, r2, s2⟩ := fix_all A1 f1 o1 n1 e2
  have h1p : H1 p = some (.dT []) := f1.keep p _ upd_same np
  have f2p : F2 p = none := by
    cases q : F2 p with
    | none => rfl
    | some u =>
      rcases f2.new p u q with z | z | z
      · rw [A.same.free hp] at z; cases z
      · rw [upd_same] at z; cases z
      · exact (np z).elim
  have n2 : ¬ Owns σ env2 p := fun z => by
    rcases f2.own p z with z | z
    · exact np z
    · rw [upd_same] at z; cases z
  match pv, r2 with
  | [], r2 => cases r2
  | [(a, b)], r2 =>
    cases r2 with
    | cons ha r2 =>
    cases r2 with
    | cons hb r2 =>
    cases ha with
    | @tup c xs _ q r =>
    obtain ⟨q1, q2⟩ := keys_rel r e5
    subst q1
    refine ⟨h1p, c, ks, b, rfl, A2.same _ _ q, ?_⟩
    refine k (.ref p) F2 _ (abs_other A2 f2p n2) (frm_other (f0.trans f2) hp) ⟨p, rfl, f2p, .inr ⟨[(ks, b)], [w], upd_same, .cons hb .nil, (fun z => by cases z), rfl⟩, n2⟩ ⟨p, rfl, hp⟩
  | (_, _) :: (_, _) :: _, r2 =>
    cases r2 with
    | cons ha r2 =>
    cases r2 with
    | cons hb r2 => cases r2
theorem re_dictT (hu : X.A.units + 65 < cLine) (h : PPs X pos keys values (ps.map fun p => (tE X.K p.1, tE X.K p.2))) (hall : keys.all (·.isSome) = true := by rfl) (hl : keys.length = values.length := by rfl) (h0 : keys ≠ [] := by intro z; cases z) (h15 : keys.length ≤ 15 := by decide) :
    PE X (.Dict keys values pos) (tE X.K (eDictT ps)) := pe_imp (pe_dispT (by omega) h hall hl h0 h15) fun _ _ _ => dispT_to
variable {env : MEnv} {P : MEnv → RV → Prop}
def kDictTb (P : MEnv → RV → Prop) (e : MEnv) (ds : List PyData) : Prop := ∃ kv, oneT ds = some kv ∧ P e (.own (.dict [(.tuple (kv.1.map keyD), kv.2)]))
def kDictT (P : MEnv → RV → Prop) (e : MEnv) (rs : List RV) : Prop := WFs rs e (kDictTb P)
theorem we_dictT {e : MEnv} : WE (eDictT ps) e P ↔ WA (aPairs ps) e (kDictT P) := by
  simp only [WE, WA, WFs, eDictT, wp_bind, wp_some]
  try exact Iff.rfl
theorem kDictT_eq {e : MEnv} {rs : List RV} : kDictT P e rs ↔ WFs rs e (kDictTb P) := Iff.rfl
theorem kDictTb_2 {e : MEnv} {i j : Int} {w : PyData} : kDictTb P e [.tuple [.int i, .int j], w] ↔ P e (.own (.dict [(.tuple [.int i, .int j], w)])) := ⟨fun ⟨kv, h, q⟩ => by cases h; exact q, fun q => ⟨_, rfl, q⟩⟩
end
end L3

/-! L3X: how long what repr tells is, by a weight. -/
namespace L3
open PySem PySem.Spec PyProof.Rows L2
mutual
/-- no less than what is shown is long -/
def wt : PyData → Nat
  | .none => 4
  | .bool _ => 5
  | .int _ => 101
  | .str x => 10 * x.length + 2
  | .list xs => wtAll xs + 2
  | .tuple xs => wtAll xs + 3
  | .dict kvs => wtKv kvs + 2
def wtAll : List PyData → Nat
  | [] => 0
  | x :: xs => wt x + 2 + wtAll xs
def wtKv : List (PyData × PyData) → Nat
  | [] => 0
  | (k, v) :: r => wt k + wt v + 4 + wtKv r
end
mutual
/-- numbers that are not too long, texts of signs -/
def fineD : PyData → Prop
  | .int i => i.natAbs < 10 ^ 100
  | .str x => ∀ c ∈ x.cps.toList, c < 16 ^ 8
  | .list xs => fineAll xs
  | .tuple xs => fineAll xs
  | .dict kvs => fineKv kvs
  | _ => True
def fineAll : List PyData → Prop
  | [] => True
  | x :: xs => fineD x ∧ fineAll xs
def fineKv : List (PyData × PyData) → Prop
  | [] => True
  | (k, v) :: r => fineD k ∧ fineD v ∧ fineKv r
end
def wSum : List Str → Nat
  | [] => 0
  | t :: ts => t.length + 2 + wSum ts
theorem join_wSum : ∀ ts : List Str, (Str.join ", " ts).length ≤ wSum ts
  | [] => by show 0 ≤ _; omega
  | [x] => by show x.length ≤ x.length + 2 + 0; omega
  | x :: y :: r => by
    have h2 := join_wSum (y :: r)
    show (x ++ ", " ++ Str.join ", " (y :: r)).length ≤ x.length + 2 + wSum (y :: r)
    rw [strA, strA]
    have h3 : (", " : Str).length = 2 := by decide +kernel
    rw [h3]
    omega
theorem from_wSum : ∀ (ts : List Str) (k : Nat) (acc : Str), (textFrom k acc ts).length ≤ acc.length + wSum ts
  | [], _, acc => by show acc.length ≤ acc.length + 0; omega
  | t :: ts, k, acc => by
    unfold textFrom
    refine Nat.le_trans (from_wSum ts _ _) ?_
    show _ ≤ acc.length + (t.length + 2 + wSum ts)
    have h3 : (", " : Str).length = 2 := by decide +kernel
    rw [strA]
    have h4 : (Str.ofString "").length = 0 := by decide +kernel
    rw [strA]
    split
    · rw [show (Str.ofString ", ").length = 2 from h3]; omega
    · rw [h4]; omega
mutual
theorem shown_wt : ∀ d : PyData, fineD d → d.shown.length ≤ wt d ∧ d.showable = true
  | .none, _ => ⟨by rw [PyData.shown, wt]; decide +kernel, by simp [PyData.showable]⟩
  | .bool b, _ => ⟨by rw [PyData.shown, wt]; cases b <;> decide +kernel, by simp [PyData.showable]⟩
  | .int i, h => ⟨by rw [PyData.shown, wt]; rw [fineD] at h; exact int_len h, by rw [fineD] at h; simpa [PyData.showable] using int_log h⟩
  | .str x, h => ⟨by rw [PyData.shown, wt]; rw [fineD] at h; exact StrLaws.reprText_len x h, by simp [PyData.showable]⟩
  | .list xs, h => by
    rw [fineD] at h
    obtain ⟨h1, h2⟩ := shown_wtAll xs h
    refine ⟨?_, by simpa [PyData.showable] using h2⟩
    rw [PyData.shown, wt, listText, strA]
    have := from_wSum (PyData.shownAll xs) 0 "["
    have h3 : ("[" : Str).length = 1 := by decide +kernel
    have h4 : ("]" : Str).length = 1 := by decide +kernel
    omega
  | .tuple xs, h => by
    rw [fineD] at h
    obtain ⟨h1, h2⟩ := shown_wtAll xs h
    refine ⟨?_, by simpa [PyData.showable] using h2⟩
    rw [PyData.shown, wt, tupleText, strA, strA]
    have := join_wSum (PyData.shownAll xs)
    have h3 : ("(" : Str).length = 1 := by decide +kernel
    have h4 : (Str.ofString (if (PyData.shownAll xs).length == 1 then ",)" else ")")).length ≤ 2 := by split <;> decide +kernel
    omega
  | .dict kvs, h => by
    rw [fineD] at h
    obtain ⟨h1, h2⟩ := shown_wtKv kvs h
    refine ⟨?_, by simpa [PyData.showable] using h2⟩
    rw [PyData.shown, wt, dictText, strA, strA]
    have := join_wSum (PyData.shownKv kvs)
    have h3 : ("{" : Str).length = 1 := by decide +kernel
    have h4 : ("}" : Str).length = 1 := by decide +kernel
    omega
theorem shown_wtAll : ∀ xs : List PyData, fineAll xs → wSum (PyData.shownAll xs) ≤ wtAll xs ∧ PyData.showableAll xs = true
  | [], _ => ⟨by simp [PyData.shownAll, wSum, wtAll], by simp [PyData.showableAll]⟩
  | x :: xs, h => by
    rw [fineAll] at h
    obtain ⟨a1, a2⟩ := shown_wt x h.1
    obtain ⟨b1, b2⟩ := shown_wtAll xs h.2
    refine ⟨?_, by simp [PyData.showableAll, a2, b2]⟩
    rw [PyData.shownAll, wSum, wtAll]
    omega
theorem shown_wtKv : ∀ kvs : List (PyData × PyData), fineKv kvs → wSum (PyData.shownKv kvs) ≤ wtKv kvs ∧ PyData.showableKv kvs = true
  | [], _ => ⟨by simp [PyData.shownKv, wSum, wtKv], by simp [PyData.showableKv]⟩
  | (k, v) :: r, h => by
    rw [fineKv] at h
    obtain ⟨a1, a2⟩ := shown_wt k h.1
    obtain ⟨c1, c2⟩ := shown_wt v h.2.1
    obtain ⟨b1, b2⟩ := shown_wtKv r h.2.2
    refine ⟨?_, by simp [PyData.showableKv, a2, b2, c2]⟩
    rw [PyData.shownKv, wSum, wtKv, strA, strA]
    have h3 : (": " : Str).length = 2 := by decide +kernel
    omega
end
structure ReprOk (d : PyData) : Prop where
  fine : fineD d
  dict : d.hasDict = false ∨ listFree d = true
  deep : d.depth ≤ 60
  wide : wt d ≤ lineN
theorem reprD_ok {d : PyData} (h : ReprOk d) : reprD [d] = some (.fz (.str d.shown)) := by
  obtain ⟨h1, h2⟩ := shown_wt d h.fine
  rw [reprD_1, if_pos ⟨h2, h.dict, h.deep, Nat.le_trans h1 h.wide⟩]
end L3

namespace G_k01
open PySem PyProof.Rows L2 L3
def b_is_whole : MS := (sRet (eT (mAnd (asT (eOp1 (isi .int) (eSlot 0))) (mNot (asT (eOp1 (isi .bool) (eSlot 0)))))))
def c_is_whole : CF := runF 1 1 b_is_whole
def b_is_near : MS := (sRet (eT (mAnd (asT (eUser c_is_whole (aCons (eSlot 0) aNil))) (asT (eOp2 ltD (eCall absD (aCons (eSlot 0) aNil)) (eLit (.int 1000000000000)))))))
def c_is_near : CF := runF 1 1 b_is_near
def b_is_spot : MS := (sRet (eT (mAnd (asT (eOp1 (isi .tuple) (eSlot 0))) (mAnd (asT (eOp2 eqD (eCall lenD (aCons (eSlot 0) aNil)) (eLit (.int 2)))) (mAnd (asT (eUser c_is_near (aCons (eOp2 ixD (eSlot 0) (eLit (.int 0))) aNil))) (asT (eUser c_is_near (aCons (eOp2 ixD (eSlot 0) (eLit (.int 1))) aNil))))))))
def c_is_spot : CF := runF 1 1 b_is_spot
def b_is_box : MS := (sSeq (sIf (mOr (mNot (asT (eOp1 (isi .tuple) (eSlot 0)))) (mOr (asT (eOp2 neD (eCall lenD (aCons (eSlot 0) aNil)) (eLit (.int 2)))) (mOr (mNot (asT (eUser c_is_spot (aCons (eOp2 ixD (eSlot 0) (eLit (.int 0))) aNil)))) (mNot (asT (eUser c_is_spot (aCons (eOp2 ixD (eSlot 0) (eLit (.int 1))) aNil)))))))
 (sRet (eLit (.bool false)))
 sSkip)
 (sRet (eT (mAnd (asT (eOp2 leD (eOp2 ixD (eOp2 ixD (eSlot 0) (eLit (.int 0))) (eLit (.int 0))) (eOp2 ixD (eOp2 ixD (eSlot 0) (eLit (.int 1))) (eLit (.int 0))))) (asT (eOp2 leD (eOp2 ixD (eOp2 ixD (eSlot 0) (eLit (.int 0))) (eLit (.int 1))) (eOp2 ixD (eOp2 ixD (eSlot 0) (eLit (.int 1))) (eLit (.int 1)))))))))
def c_is_box : CF := runF 1 1 b_is_box
def b_law_take : MS := (sSeq (sIf (asT (eOp2 gtD (eOp2 ixD (eSlot 0) (eLit (.int 2))) (eLit (.int 0))))
 (sSeq (sSet 2 (eOp2 modD (eOp2 ixD (eSlot 0) (eLit (.int 2))) (eSlot 1)))
 (sSeq (sSetIx 0 (eLit (.int 2)) (eOp2 divD (eOp2 ixD (eSlot 0) (eLit (.int 2))) (eSlot 1)))
 (sRet (eSlot 2))))
 sSkip)
 (sSeq (sSet 3 (eOp2 ixD (eSlot 0) (eLit (.int 1))))
 (sSeq (sSetIx 0 (eLit (.int 1)) (eOp2 addD (eSlot 3) (eLit (.int 1))))
 (sSeq (sSet 4 (eLit (.int 0)))
 (sSeq (sIf (asT (eOp2 gtD (eCall lenD (aCons (eOp2 ixD (eSlot 0) (eLit (.int 0))) aNil)) (eLit (.int 0))))
 (sSet 4 (eOp2 ixD (eOp2 ixD (eSlot 0) (eLit (.int 0))) (eOp2 modD (eSlot 3) (eCall lenD (aCons (eOp2 ixD (eSlot 0) (eLit (.int 0))) aNil)))))
 sSkip)
 (sSeq (sIf (mAnd (asT (eOp2 ltD (eSlot 3) (eCall lenD (aCons (eOp2 ixD (eSlot 0) (eLit (.int 0))) aNil)))) (asT (eOp2 geD (eCall absD (aCons (eSlot 4) aNil)) (eOp2 powD (eLit (.int 10)) (eLit (.int 18))))))
 (sSeq (sSetIx 0 (eLit (.int 2)) (eOp2 divD (eCall absD (aCons (eSlot 4) aNil)) (eSlot 1)))
 (sRet (eOp2 modD (eCall absD (aCons (eSlot 4) aNil)) (eSlot 1))))
 sSkip)
 (sSeq (sSet 5 (eOp2 modD (eOp2 mulSD (eOp2 addD (eOp2 addD (eOp2 modD (eSlot 4) (eLit (.int 2147483629))) (eOp2 mulSD (eLit (.int 104729)) (eSlot 3))) (eLit (.int 3))) (eLit (.int 48271))) (eLit (.int 2147483647))))
 (sSeq (sSet 6 (eOp2 modD (eOp2 addD (eOp2 addD (eOp2 mulSD (eSlot 5) (eSlot 5)) (eOp2 mulSD (eLit (.int 69621)) (eSlot 5))) (eOp2 mulSD (eLit (.int 13)) (eSlot 3))) (eLit (.int 2147483587))))
 (sRet (eOp2 modD (eOp2 divD (eOp2 modD (eOp2 mulSD (eSlot 6) (eOp2 addD (eOp2 modD (eSlot 6) (eLit (.int 65521))) (eLit (.int 5)))) (eLit (.int 2147483579))) (eLit (.int 64))) (eSlot 1)))))))))))
def c_law_take : CF := runF 2 7 b_law_take
def b_law_wide : MS := (sSeq (sIf (asT (eOp2 ltD (eSlot 1) (eOp2 powD (eLit (.int 10)) (eLit (.int 7)))))
 (sRet (eUser c_law_take (aCons (eSlot 0) (aCons (eSlot 1) aNil))))
 sSkip)
 (sSeq (sSet 2 (eLit (.int 0)))
 (sSeq (sFor (gSlot 3) (iRange1 (eOp2 addD (eOp2 divD (eCall lenD (aCons (eCall strD (aCons (eSlot 1) aNil)) aNil)) (eLit (.int 7))) (eLit (.int 1))))
 (sSet 2 (eOp2 addD (eOp2 mulSD (eSlot 2) (eOp2 powD (eLit (.int 10)) (eLit (.int 7)))) (eUser c_law_take (aCons (eSlot 0) (aCons (eOp2 powD (eLit (.int 10)) (eLit (.int 7))) aNil))))))
 (sRet (eOp2 modD (eSlot 2) (eSlot 1))))))
def c_law_wide : CF := runF 2 4 b_law_wide
def b_law_number : MS := (sSeq (sSet 1 (eOp2 subD (eOp2 powD (eLit (.int 10)) (eLit (.int 12))) (eLit (.int 1))))
 (sSeq (sSet 2 (eLst (aCons (eOp2 subD (eUser c_law_take (aCons (eSlot 0) (aCons (eLit (.int 7)) aNil))) (eLit (.int 3))) (aCons (eOp2 subD (eUser c_law_take (aCons (eSlot 0) (aCons (eLit (.int 201)) aNil))) (eLit (.int 100))) (aCons (eOp2 subD (eUser c_law_wide (aCons (eSlot 0) (aCons (eOp2 addD (eOp2 mulSD (eLit (.int 2)) (eSlot 1)) (eLit (.int 1))) aNil))) (eSlot 1)) (aCons (eSlot 1) (aCons (eOp2 subD (eLit (.int 0)) (eSlot 1)) aNil)))))))
 (sRet (eOp2 ixD (eSlot 2) (eUser c_law_take (aCons (eSlot 0) (aCons (eLit (.int 5)) aNil)))))))
def c_law_number : CF := runF 1 3 b_law_number
def b_law_spot : MS := (sRet (eTup (aCons (eUser c_law_number (aCons (eSlot 0) aNil)) (aCons (eUser c_law_number (aCons (eSlot 0) aNil)) aNil))))
def c_law_spot : CF := runF 1 1 b_law_spot
def b_law_box : MS := (sSeq (sSet 1 (eUser c_law_spot (aCons (eSlot 0) aNil)))
 (sSeq (sSet 2 (eOp2 ixD (eLst (aCons (eSlot 1) (aCons (eUser c_law_spot (aCons (eSlot 0) aNil)) aNil))) (eUser c_law_take (aCons (eSlot 0) (aCons (eLit (.int 2)) aNil)))))
 (sRet (eTup (aCons (eTup (aCons (eCall minD (aCons (eOp2 ixD (eSlot 1) (eLit (.int 0))) (aCons (eOp2 ixD (eSlot 2) (eLit (.int 0))) aNil))) (aCons (eCall minD (aCons (eOp2 ixD (eSlot 1) (eLit (.int 1))) (aCons (eOp2 ixD (eSlot 2) (eLit (.int 1))) aNil))) aNil))) (aCons (eTup (aCons (eCall maxD (aCons (eOp2 ixD (eSlot 1) (eLit (.int 0))) (aCons (eOp2 ixD (eSlot 2) (eLit (.int 0))) aNil))) (aCons (eCall maxD (aCons (eOp2 ixD (eSlot 1) (eLit (.int 1))) (aCons (eOp2 ixD (eSlot 2) (eLit (.int 1))) aNil))) aNil))) aNil))))))
def c_law_box : CF := runF 1 3 b_law_box
def b_law_odd : MS := (sSeq (sSet 1 (eOp2 powD (eLit (.int 10)) (eLit (.int 12))))
 (sSeq (sSet 2 (eLst (aCons (eLit (.bool true)) (aCons (eLit (.bool false)) (aCons (eLit .none) (aCons (eLit (.str "")) (aCons (eLit (.str "1")) (aCons (eSlot 1) (aCons (eOp2 subD (eLit (.int 0)) (eSlot 1)) (aCons (eOp2 mulSD (eSlot 1) (eOp2 powD (eLit (.int 10)) (eLit (.int 40)))) (aCons (eOp2 subD (eOp2 subD (eLit (.int 0)) (eSlot 1)) (eUser c_law_take (aCons (eSlot 0) (aCons (eLit (.int 9)) aNil)))) (aCons (eLst (aCons (eLit (.int 0)) aNil)) (aCons (eTup (aCons (eLit (.int 0)) aNil)) (aCons (eTup aNil) (aCons (eDict []) aNil)))))))))))))))
 (sRet (eOp2 ixD (eSlot 2) (eUser c_law_take (aCons (eSlot 0) (aCons (eCall lenD (aCons (eSlot 2) aNil)) aNil)))))))
def c_law_odd : CF := runF 1 3 b_law_odd
def b_law_no_spots : MS := (sSeq (sAsg (gUnp 2 (gsCons (gSlot 2) (gsCons (gSlot 3) gsNil))) (eSlot 1))
 (sSeq (sSet 4 (eUser c_law_odd (aCons (eSlot 0) aNil)))
 (sSeq (sSet 5 (eLst (aCons (eLst (aCons (eSlot 2) (aCons (eSlot 3) aNil))) (aCons (eTup (aCons (eSlot 2) aNil)) (aCons (eTup (aCons (eSlot 2) (aCons (eSlot 3) (aCons (eLit (.int 0)) aNil)))) (aCons (eTup (aCons (eSlot 4) (aCons (eSlot 3) aNil))) (aCons (eTup (aCons (eSlot 2) (aCons (eSlot 4) aNil))) (aCons (eTup (aCons (eSlot 4) (aCons (eSlot 4) aNil))) (aCons (eLit .none) (aCons (eLit (.int 0)) (aCons (eLit (.bool true)) (aCons (eLit (.str "")) (aCons (eLit (.str "0,0")) (aCons (eTup aNil) (aCons (eLst aNil) (aCons (eDict []) (aCons (eDict [((eSlot 2), (eSlot 3))]) aNil)))))))))))))))))
 (sRet (eOp2 addD (eSlot 5) (eLst (aCons (eTup (aCons (eSlot 1) (aCons (eSlot 1) aNil))) (aCons (eTup (aCons (eSlot 1) aNil)) (aCons (eTup (aCons (eTup (aCons (eSlot 2) aNil)) (aCons (eSlot 3) aNil))) (aCons (eSlot 2) (aCons (eDict [((eLit (.str "x")), (eSlot 2)), ((eLit (.str "y")), (eSlot 3))]) aNil)))))))))))
def c_law_no_spots : CF := runF 2 6 b_law_no_spots
def b_law_no_boxes : MS := (sSeq (sAsg (gUnp 2 (gsCons (gSlot 2) (gsCons (gSlot 3) gsNil))) (eSlot 1))
 (sSeq (sSet 4 (eUser c_law_odd (aCons (eSlot 0) aNil)))
 (sSeq (sSet 5 (eUser c_law_take (aCons (eSlot 0) (aCons (eLit (.int 2)) aNil))))
 (sSeq (sSet 6 (eOp2 ixD (eLst (aCons (eTup (aCons (eOp2 addD (eOp2 ixD (eSlot 3) (eLit (.int 0))) (eLit (.int 1))) (aCons (eOp2 ixD (eSlot 2) (eLit (.int 1))) aNil))) (aCons (eTup (aCons (eOp2 ixD (eSlot 2) (eLit (.int 0))) (aCons (eOp2 addD (eOp2 ixD (eSlot 3) (eLit (.int 1))) (eLit (.int 1))) aNil))) aNil))) (eSlot 5)))
 (sSeq (sSet 7 (eLst (aCons (eLst (aCons (eSlot 2) (aCons (eSlot 3) aNil))) (aCons (eTup (aCons (eSlot 2) aNil)) (aCons (eTup (aCons (eSlot 2) (aCons (eSlot 3) (aCons (eSlot 3) aNil)))) (aCons (eTup (aCons (eCall listD (aCons (eSlot 2) aNil)) (aCons (eSlot 3) aNil))) (aCons (eTup (aCons (eSlot 2) (aCons (eCall listD (aCons (eSlot 3) aNil)) aNil))) (aCons (eSlot 2) (aCons (eTup (aCons (eSlot 6) (aCons (eSlot 3) aNil))) (aCons (eTup aNil) (aCons (eLit .none) aNil)))))))))))
 (sSeq (sSet 7 (eOp2 addD (eSlot 7) (eLst (aCons (eTup (aCons (eTup (aCons (eSlot 4) (aCons (eOp2 ixD (eSlot 2) (eLit (.int 1))) aNil))) (aCons (eSlot 3) aNil))) (aCons (eTup (aCons (eTup (aCons (eOp2 ixD (eSlot 2) (eLit (.int 0))) (aCons (eSlot 4) aNil))) (aCons (eSlot 3) aNil))) (aCons (eTup (aCons (eSlot 2) (aCons (eTup (aCons (eSlot 4) (aCons (eOp2 ixD (eSlot 3) (eLit (.int 1))) aNil))) aNil))) (aCons (eTup (aCons (eSlot 2) (aCons (eTup (aCons (eOp2 ixD (eSlot 3) (eLit (.int 0))) (aCons (eSlot 4) aNil))) aNil))) aNil)))))))
 (sSeq (sSet 7 (eOp2 addD (eSlot 7) (eLst (aCons (eTup (aCons (eOp2 addD (eSlot 2) (eTup (aCons (eLit (.int 0)) aNil))) (aCons (eSlot 3) aNil))) (aCons (eTup (aCons (eSlot 2) (aCons (eOp2 addD (eSlot 3) (eTup (aCons (eLit (.int 0)) aNil))) aNil))) (aCons (eTup (aCons (eSlot 1) (aCons (eSlot 1) aNil))) (aCons (eTup (aCons (eSlot 1) aNil)) (aCons (eLit (.bool true)) (aCons (eLit (.int 7)) (aCons (eLit (.str "")) (aCons (eLst aNil) (aCons (eDict []) (aCons (eDictT [((eSlot 2), (eSlot 3))]) aNil)))))))))))))
 (sSeq (sIf (asT (eOp2 neD (eSlot 2) (eSlot 3)))
 (sExpr (eApp 7 (eTup (aCons (eSlot 3) (aCons (eSlot 2) aNil)))))
 sSkip)
 (sRet (eOp2 addD (eSlot 7) (eLst (aCons (eTup (aCons (eSlot 4) (aCons (eSlot 3) aNil))) (aCons (eTup (aCons (eSlot 2) (aCons (eSlot 4) aNil))) (aCons (eTup (aCons (eSl slD (eSlot 2) oNo (oSm (eLit (.int 1)))) (aCons (eSlot 3) aNil))) (aCons (eTup (aCons (eOp2 ixD (eSlot 2) (eLit (.int 0))) (aCons (eOp2 ixD (eSlot 3) (eLit (.int 0))) aNil))) (aCons (eOp2 addD (eSlot 2) (eSlot 3)) aNil))))))))))))))))
def c_law_no_boxes : CF := runF 2 8 b_law_no_boxes
def b_law : MS := (sSeq (sSet 1 (eLst (aCons (eSlot 0) (aCons (eLit (.int 0)) (aCons (eLit (.int 0)) aNil)))))
 (sSeq (sFor (gSlot 2) (iRange1 (eLit (.int 6)))
 (sSeq (sSet 3 (eUser c_law_spot (aCons (eSlot 1) aNil)))
 (sSeq (sSet 4 (eUser c_law_box (aCons (eSlot 1) aNil)))
 (sSeq (sIf (mOr (asT (eOp2 isNotD (eUser c_is_spot (aCons (eSlot 3) aNil)) (eLit (.bool true)))) (mOr (asT (eOp2 isNotD (eUser c_is_box (aCons (eSlot 4) aNil)) (eLit (.bool true)))) (asT (eOp2 isNotD (eUser c_is_box (aCons (eTup (aCons (eSlot 3) (aCons (eSlot 3) aNil))) aNil)) (eLit (.bool true))))))
 (sRet (eLit (.bool false)))
 sSkip)
 (sSeq (sFor (gSlot 5) (iAny (eUser c_law_no_spots (aCons (eSlot 1) (aCons (eSlot 3) aNil))))
 (sSeq (sSet 6 (eCall reprD (aCons (eSlot 5) aNil)))
 (sIf (mOr (asT (eOp2 isNotD (eUser c_is_spot (aCons (eSlot 5) aNil)) (eLit (.bool false)))) (asT (eOp2 neD (eCall reprD (aCons (eSlot 5) aNil)) (eSlot 6))))
 (sRet (eLit (.bool false)))
 sSkip)))
 (sSeq (sFor (gSlot 5) (iAny (eUser c_law_no_boxes (aCons (eSlot 1) (aCons (eSlot 4) aNil))))
 (sSeq (sSet 6 (eCall reprD (aCons (eSlot 5) aNil)))
 (sIf (mOr (asT (eOp2 isNotD (eUser c_is_box (aCons (eSlot 5) aNil)) (eLit (.bool false)))) (asT (eOp2 neD (eCall reprD (aCons (eSlot 5) aNil)) (eSlot 6))))
 (sRet (eLit (.bool false)))
 sSkip)))
 (sIf (mOr (asT (eOp2 isNotD (eUser c_is_spot (aCons (eSlot 4) aNil)) (eLit (.bool false)))) (asT (eOp2 isNotD (eUser c_is_box (aCons (eSlot 3) aNil)) (eLit (.bool false)))))
 (sRet (eLit (.bool false)))
 sSkip)))))))
 (sRet (eLit (.bool true)))))
def c_law : CF := runF 1 7 b_law
theorem lit_0 : Str.ofString "" = SX.S [] := by decide +kernel
theorem lit_1 : Str.ofString "1" = SX.S [49] := by decide +kernel
theorem lit_2 : Str.ofString "0,0" = SX.S [48, 44, 48] := by decide +kernel
theorem lit_3 : Str.ofString "y" = SX.S [121] := by decide +kernel
theorem lit_4 : Str.ofString "x" = SX.S [120] := by decide +kernel
-- LITS: lit_0 lit_1 lit_2 lit_3 lit_4
end G_k01

namespace G_k01
open PySem PyProof.Rows L2 L3

-- LITS: lit_0 lit_1 lit_2 lit_3 lit_4
/-- the pen -/
def penD (ns : List Int) (p c : Int) : PyData := .list [.list (ns.map PyData.int), .int p, .int c]
theorem take_ok {ns : List Int} {p c m : Int} {P : List SV → RV → Prop} (h0 : 0 < m) (h1 : m < 1073741824) (k : ∀ r p' c' : Int, 0 ≤ r → r < m → P [.own (penD ns p' c'), .fz (.int m)] (.fz (.int r))) :
    WC c_law_take [.own (penD ns p c), .fz (.int m)] P := by
  have k' := fun r p' c' => k r p' c'
  unfold penD at k'
  unfold c_law_take b_law_take penD
  (try simp only [↓wx_0, ↓wx_s, ↓wv_fz, ↓wv_own, ↓wv_plc, ↓kView_fz, ↓kView_own, ↓kView_ref, ↓kView_rfz, ↓wf_fz, ↓wf_own, ↓wf_plc, ↓kFix_fz, ↓kFix_rfz, ↓kFix_own, ↓kFix_ref, ↓we_lit, ↓we_slot, ↓kSlot_fz, ↓kSlot_rfz, ↓kSlot_own, ↓kSlot_ref, ↓wa_nil, ↓wa_cons, ↓kCons1_eq, ↓kCons2_eq, ↓wvs_nil, ↓wvs_cons, ↓kVs1_eq, ↓kVs2_eq, ↓we_op2, ↓kOp2a_eq, ↓kOp2b_eq, ↓kOp2c_eq, ↓kOp2d_eq, ↓we_op1, ↓kOp1a_eq, ↓kOp1b_eq, ↓we_call, ↓kCalla_eq, ↓kCallb_eq, ↓wt_asT, ↓kAsT_eq, ↓wt_and, ↓wt_or, ↓wt_not, ↓kAnd_t, ↓kAnd_f, ↓kOr_t, ↓kOr_f, ↓kNot_eq, ↓we_eT, ↓kET_eq, ↓we_if, ↓kIfE_t, ↓kIfE_f, ↓we_chain, ↓kCh1_eq, ↓kCh2_eq, ↓kCh3_eq, ↓kCh4_eq, ↓kCh5_t, ↓kCh5_f, ↓wfs_nil, ↓wfs_cons, ↓kFs1_eq, ↓kFs2_eq, ↓we_tup, ↓we_lst, ↓kTup_eq, ↓kTupb_eq, ↓kLst_eq, ↓kLstb_eq, ↓we_dict, ↓kDict_eq, ↓kDictb_nil, ↓we_dictT, ↓kDictT_eq, ↓kDictTb_2, ↓wa_pairs0, ↓wa_pairs, ↓wo_no, ↓wo_sm, ↓kSm_eq, ↓we_sl, ↓kSl1_eq, ↓kSl2_eq, ↓kSl3_eq, ↓kSl4_eq, ↓we_m0, ↓we_m1, ↓kM0_eq, ↓kM1_eq, ↓kM1b_eq, ↓kM1c_eq, ↓wg_slot, ↓kGSlot_eq, ↓wgs_nil, ↓wgs_cons, ↓kGs_eq, ↓wg_unp, ↓wi_any, ↓kIAnyA_eq, ↓kIAny_l, ↓kIAny_t, ↓kIAny_s, ↓wi_r1, ↓wi_r2, ↓kR1_eq, ↓kR2_eq, ↓kR2a_eq, ↓we_lc, ↓kLc_eq, ↓kLcE_eq, ↓kLcF_eq, ↓kLcR_eq, ↓kLcT_eq, ↓kLcB_t, ↓kLcB_f, ↓wt_yes, ↓ws_skip, ↓ws_seq, ↓kSeq_nx, ↓kSeq_rt, ↓kSeq_bk, ↓kSeq_ct, ↓ws_expr, ↓kExpr_eq, ↓ws_set, ↓kSet_eq, ↓kSetL_eq, ↓kSetV_fz, ↓kSetV_own, ↓kSetV_plc, ↓kSetP_own, ↓kSetP_ref, ↓kSetP_fz, ↓ws_asg, ↓kAsg_fz, ↓kAsgB_eq, ↓ws_ret, ↓kRet_fz, ↓kRet_own, ↓kRet_plc, ↓kRetP_own, ↓kRetP_ref, ↓ws_retN, ↓ws_if, ↓kIf_t, ↓kIf_f, ↓ws_brk, ↓ws_cnt, ↓ws_for, ↓kFor_eq, ↓kLoop_nx, ↓kLoop_ct, ↓kLoop_bk, ↓kLoop_rt, ↓kBody_eq, ↓wl_eq, ↓kOwnL_own, ↓kOwnL_ref, ↓ws_setIx, ↓kSI1_eq, ↓kSI2_eq, ↓kSI3_eq, ↓kSI4_eq, ↓kSI5_eq, ↓we_app, ↓kAp0_eq, ↓kAp1_eq, ↓kAp2_eq, ↓kAp3_eq, ↓we_user, ↓kUsr_eq, ↓kUsr1_eq, ↓kUsr2_eq, ↓kUsr3_fz, ↓kUsr3_own, ↓warg_nil, ↓warg_fz, ↓warg_own, ↓warg_plc, ↓kArg1_eq, ↓kArg2_eq, ↓kArgP_own, ↓kArgP_ref, ↓kArgP_fz, ↓kArgP_rfz, ↓wc_run, ↓kRun_rt, ↓kRun_nx, ↓kRunR_fz, ↓kRunR_own, ↓wex_nil, ↓wex_fz, ↓wex_ref, ↓wex_rfz, ↓kEx_eq, ↓we_rev, ↓kRev0_eq, ↓kRev_l, ↓wk_eq, ↓kOwnK_own, ↓kOwnK_ref, ↓ws_setKey, ↓kSK1_eq, ↓kSK2_eq, ↓kSK3_eq, ↓kSK4_s, ↓kSK4_i, ↓kSK5_eq, ↓kSK6_eq, ↓we_get1, ↓kG1_eq, ↓kG2_d, ↓kG3_eq, ↓kG4_d, ↓kG5_s, ↓kG5_i, ↓we_get2, ↓kH1_eq, ↓kH2_d, ↓kH3_eq, ↓kH3b_eq, ↓kH4_d, ↓kH5_s, ↓kH5_i, ↓kWh_t, ↓kWh_f, ↓ws_while, ↓we_ext, ↓kEx0_eq, ↓kEx1_eq, ↓kEx3_eq, ↓kJ_nx, ↓kJ_rt, ↓kJ_bk, ↓kJ_ct, ↓kIs_eq, ↓kIsE_eq, wp_some, backSVs_nil, backSVs_cons, lock_unb, lock_fz, lock_own, plain_fz, plain_own, enter_fz, enter_own, put_ownE, put_refE, back_oo, back_of, back_ro, back_rf, back_fz, back_rfz, freeze_own, freeze_ref, freeze_fz, backAt_eq, findSV_nil, findSV_nil2, findSV_plc, findSV_fz, findSV_own, apart_nil, apart_fz, apart_own, apart_plc, placed_nil, placed_fz, placed_own, placed_plc, wipeE_nil, wipeE_cons, backE_nil, backE_cons, unlocked_nil, unlocked_cons, List.set_cons_zero, List.set_cons_succ, List.getD_cons_zero, List.getD_cons_succ, List.getElem?_cons_zero, List.getElem?_cons_succ, List.map_cons, List.map_nil, List.cons_append, List.nil_append, List.replicate_succ, List.replicate_zero, List.length_cons, List.length_nil, List.all_cons, List.all_nil, Nat.reduceSub, Nat.reduceAdd, Nat.reduceLeDiff, Nat.reduceEqDiff, Nat.reduceLT, Nat.zero_add, Bool.not_true, Bool.not_false, Bool.and_true, Bool.true_and, Bool.and_self, and_true, true_and, if_true, reduceIte, reduceCtorEq, decide_true, decide_false, Bool.false_eq_true, Bool.or_false, Bool.or_true, Bool.false_or, Bool.true_or, Bool.and_false, Bool.false_and, Nat.le_refl, lineN, Nat.one_ne_zero, Nat.zero_ne_one, addD_i, subD_i, negD_i, cmpI_i, eqD_i, neD_i, eqD_s, neD_s, eqD_b, neD_b, isD_n, isD_b, isNotD_n, isNotD_b, isBool_b, isNone_n, isNone_b, isNone_i, isNone_s, isNone_l, isNone_t, isNone_d, isi_eq, lenD_l, lenD_t, absD_n, maxD_m, minD_m, intD_i, listD_l, listD_t, tupleD_l, tupleD_t, isiB, mulSD_i, divD_i, modD_i, powD_i, ixD_l, ixD_t, ixD_s, slD_l, slD_t, slD_s, lenD_s, addD_s, addD_l, addD_t, strD_i, wp_bind, wp_guard, atI_0, atI_1, atI_2, atI_3, atI_4, ixN_0, ixN_1, ixN_2, Int.reduceNeg, Int.reduceSub, Int.reduceAdd, listD_s, tupleD_s, mulSD_s, small64_eq, decide_eq_true_eq, or_true, true_or, Int.reducePow, Int.reduceToNat, Int.reduceLE, Int.reduceLT, Int.reduceMul, Int.reduceEq, Int.zero_add, Nat.reducePow, Nat.reduceMul, Int.reduceAbs, rangeD_1, rangeD_2, rangeD_3, sortedD_l, maxLD_l, minLD_l, sumLD_l, reprD_1, ixD_ds, ixD_di, inD_ds, inD_di, notInD_ds, notInD_di, dictPD_l, intsOf_nil, intsOf_cons, Option.bind_some, List.max?_cons', List.min?_cons', List.foldl_cons, List.foldl_nil, kDictb_s, kDictb_int, Int.cast_ofNat_Int, upperD_eq, cutS_S, S_cps, S_len', SX.S_len, SX.S_cat, S_mk, repS_S, inD_S, notInD_S, signD_S, ixD_S, cutG_none, cutG_but, cutD_G, lit_0, lit_1, lit_2, lit_3, lit_4])
  refine kIf_i (fun hc => ?_) fun hc => ?_
  · (try simp only [↓wx_0, ↓wx_s, ↓wv_fz, ↓wv_own, ↓wv_plc, ↓kView_fz, ↓kView_own, ↓kView_ref, ↓kView_rfz, ↓wf_fz, ↓wf_own, ↓wf_plc, ↓kFix_fz, ↓kFix_rfz, ↓kFix_own, ↓kFix_ref, ↓we_lit, ↓we_slot, ↓kSlot_fz, ↓kSlot_rfz, ↓kSlot_own, ↓kSlot_ref, ↓wa_nil, ↓wa_cons, ↓kCons1_eq, ↓kCons2_eq, ↓wvs_nil, ↓wvs_cons, ↓kVs1_eq, ↓kVs2_eq, ↓we_op2, ↓kOp2a_eq, ↓kOp2b_eq, ↓kOp2c_eq, ↓kOp2d_eq, ↓we_op1, ↓kOp1a_eq, ↓kOp1b_eq, ↓we_call, ↓kCalla_eq, ↓kCallb_eq, ↓wt_asT, ↓kAsT_eq, ↓wt_and, ↓wt_or, ↓wt_not, ↓kAnd_t, ↓kAnd_f, ↓kOr_t, ↓kOr_f, ↓kNot_eq, ↓we_eT, ↓kET_eq, ↓we_if, ↓kIfE_t, ↓kIfE_f, ↓we_chain, ↓kCh1_eq, ↓kCh2_eq, ↓kCh3_eq, ↓kCh4_eq, ↓kCh5_t, ↓kCh5_f, ↓wfs_nil, ↓wfs_cons, ↓kFs1_eq, ↓kFs2_eq, ↓we_tup, ↓we_lst, ↓kTup_eq, ↓kTupb_eq, ↓kLst_eq, ↓kLstb_eq, ↓we_dict, ↓kDict_eq, ↓kDictb_nil, ↓we_dictT, ↓kDictT_eq, ↓kDictTb_2, ↓wa_pairs0, ↓wa_pairs, ↓wo_no, ↓wo_sm, ↓kSm_eq, ↓we_sl, ↓kSl1_eq, ↓kSl2_eq, ↓kSl3_eq, ↓kSl4_eq, ↓we_m0, ↓we_m1, ↓kM0_eq, ↓kM1_eq, ↓kM1b_eq, ↓kM1c_eq, ↓wg_slot, ↓kGSlot_eq, ↓wgs_nil, ↓wgs_cons, ↓kGs_eq, ↓wg_unp, ↓wi_any, ↓kIAnyA_eq, ↓kIAny_l, ↓kIAny_t, ↓kIAny_s, ↓wi_r1, ↓wi_r2, ↓kR1_eq, ↓kR2_eq, ↓kR2a_eq, ↓we_lc, ↓kLc_eq, ↓kLcE_eq, ↓kLcF_eq, ↓kLcR_eq, ↓kLcT_eq, ↓kLcB_t, ↓kLcB_f, ↓wt_yes, ↓ws_skip, ↓ws_seq, ↓kSeq_nx, ↓kSeq_rt, ↓kSeq_bk, ↓kSeq_ct, ↓ws_expr, ↓kExpr_eq, ↓ws_set, ↓kSet_eq, ↓kSetL_eq, ↓kSetV_fz, ↓kSetV_own, ↓kSetV_plc, ↓kSetP_own, ↓kSetP_ref, ↓kSetP_fz, ↓ws_asg, ↓kAsg_fz, ↓kAsgB_eq, ↓ws_ret, ↓kRet_fz, ↓kRet_own, ↓kRet_plc, ↓kRetP_own, ↓kRetP_ref, ↓ws_retN, ↓ws_if, ↓kIf_t, ↓kIf_f, ↓ws_brk, ↓ws_cnt, ↓ws_for, ↓kFor_eq, ↓kLoop_nx, ↓kLoop_ct, ↓kLoop_bk, ↓kLoop_rt, ↓kBody_eq, ↓wl_eq, ↓kOwnL_own, ↓kOwnL_ref, ↓ws_setIx, ↓kSI1_eq, ↓kSI2_eq, ↓kSI3_eq, ↓kSI4_eq, ↓kSI5_eq, ↓we_app, ↓kAp0_eq, ↓kAp1_eq, ↓kAp2_eq, ↓kAp3_eq, ↓we_user, ↓kUsr_eq, ↓kUsr1_eq, ↓kUsr2_eq, ↓kUsr3_fz, ↓kUsr3_own, ↓warg_nil, ↓warg_fz, ↓warg_own, ↓warg_plc, ↓kArg1_eq, ↓kArg2_eq, ↓kArgP_own, ↓kArgP_ref, ↓kArgP_fz, ↓kArgP_rfz, ↓wc_run, ↓kRun_rt, ↓kRun_nx, ↓kRunR_fz, ↓kRunR_own, ↓wex_nil, ↓wex_fz, ↓wex_ref, ↓wex_rfz, ↓kEx_eq, ↓we_rev, ↓kRev0_eq, ↓kRev_l, ↓wk_eq, ↓kOwnK_own, ↓kOwnK_ref, ↓ws_setKey, ↓kSK1_eq, ↓kSK2_eq, ↓kSK3_eq, ↓kSK4_s, ↓kSK4_i, ↓kSK5_eq, ↓kSK6_eq, ↓we_get1, ↓kG1_eq, ↓kG2_d, ↓kG3_eq, ↓kG4_d, ↓kG5_s, ↓kG5_i, ↓we_get2, ↓kH1_eq, ↓kH2_d, ↓kH3_eq, ↓kH3b_eq, ↓kH4_d, ↓kH5_s, ↓kH5_i, ↓kWh_t, ↓kWh_f, ↓ws_while, ↓we_ext, ↓kEx0_eq, ↓kEx1_eq, ↓kEx3_eq, ↓kJ_nx, ↓kJ_rt, ↓kJ_bk, ↓kJ_ct, ↓kIs_eq, ↓kIsE_eq, wp_some, backSVs_nil, backSVs_cons, lock_unb, lock_fz, lock_own, plain_fz, plain_own, enter_fz, enter_own, put_ownE, put_refE, back_oo, back_of, back_ro, back_rf, back_fz, back_rfz, freeze_own, freeze_ref, freeze_fz, backAt_eq, findSV_nil, findSV_nil2, findSV_plc, findSV_fz, findSV_own, apart_nil, apart_fz, apart_own, apart_plc, placed_nil, placed_fz, placed_own, placed_plc, wipeE_nil, wipeE_cons, backE_nil, backE_cons, unlocked_nil, unlocked_cons, List.set_cons_zero, List.set_cons_succ, List.getD_cons_zero, List.getD_cons_succ, List.getElem?_cons_zero, List.getElem?_cons_succ, List.map_cons, List.map_nil, List.cons_append, List.nil_append, List.replicate_succ, List.replicate_zero, List.length_cons, List.length_nil, List.all_cons, List.all_nil, Nat.reduceSub, Nat.reduceAdd, Nat.reduceLeDiff, Nat.reduceEqDiff, Nat.reduceLT, Nat.zero_add, Bool.not_true, Bool.not_false, Bool.and_true, Bool.true_and, Bool.and_self, and_true, true_and, if_true, reduceIte, reduceCtorEq, decide_true, decide_false, Bool.false_eq_true, Bool.or_false, Bool.or_true, Bool.false_or, Bool.true_or, Bool.and_false, Bool.false_and, Nat.le_refl, lineN, Nat.one_ne_zero, Nat.zero_ne_one, addD_i, subD_i, negD_i, cmpI_i, eqD_i, neD_i, eqD_s, neD_s, eqD_b, neD_b, isD_n, isD_b, isNotD_n, isNotD_b, isBool_b, isNone_n, isNone_b, isNone_i, isNone_s, isNone_l, isNone_t, isNone_d, isi_eq, lenD_l, lenD_t, absD_n, maxD_m, minD_m, intD_i, listD_l, listD_t, tupleD_l, tupleD_t, isiB, mulSD_i, divD_i, modD_i, powD_i, ixD_l, ixD_t, ixD_s, slD_l, slD_t, slD_s, lenD_s, addD_s, addD_l, addD_t, strD_i, wp_bind, wp_guard, atI_0, atI_1, atI_2, atI_3, atI_4, ixN_0, ixN_1, ixN_2, Int.reduceNeg, Int.reduceSub, Int.reduceAdd, listD_s, tupleD_s, mulSD_s, small64_eq, decide_eq_true_eq, or_true, true_or, Int.reducePow, Int.reduceToNat, Int.reduceLE, Int.reduceLT, Int.reduceMul, Int.reduceEq, Int.zero_add, Nat.reducePow, Nat.reduceMul, Int.reduceAbs, rangeD_1, rangeD_2, rangeD_3, sortedD_l, maxLD_l, minLD_l, sumLD_l, reprD_1, ixD_ds, ixD_di, inD_ds, inD_di, notInD_ds, notInD_di, dictPD_l, intsOf_nil, intsOf_cons, Option.bind_some, List.max?_cons', List.min?_cons', List.foldl_cons, List.foldl_nil, kDictb_s, kDictb_int, Int.cast_ofNat_Int, upperD_eq, cutS_S, S_cps, S_len', SX.S_len, SX.S_cat, S_mk, repS_S, inD_S, notInD_S, signD_S, ixD_S, cutG_none, cutG_but, cutD_G, lit_0, lit_1, lit_2, lit_3, lit_4])
    refine ⟨h0, ⟨h0, h1⟩, ?_⟩
    (try simp only [↓wx_0, ↓wx_s, ↓wv_fz, ↓wv_own, ↓wv_plc, ↓kView_fz, ↓kView_own, ↓kView_ref, ↓kView_rfz, ↓wf_fz, ↓wf_own, ↓wf_plc, ↓kFix_fz, ↓kFix_rfz, ↓kFix_own, ↓kFix_ref, ↓we_lit, ↓we_slot, ↓kSlot_fz, ↓kSlot_rfz, ↓kSlot_own, ↓kSlot_ref, ↓wa_nil, ↓wa_cons, ↓kCons1_eq, ↓kCons2_eq, ↓wvs_nil, ↓wvs_cons, ↓kVs1_eq, ↓kVs2_eq, ↓we_op2, ↓kOp2a_eq, ↓kOp2b_eq, ↓kOp2c_eq, ↓kOp2d_eq, ↓we_op1, ↓kOp1a_eq, ↓kOp1b_eq, ↓we_call, ↓kCalla_eq, ↓kCallb_eq, ↓wt_asT, ↓kAsT_eq, ↓wt_and, ↓wt_or, ↓wt_not, ↓kAnd_t, ↓kAnd_f, ↓kOr_t, ↓kOr_f, ↓kNot_eq, ↓we_eT, ↓kET_eq, ↓we_if, ↓kIfE_t, ↓kIfE_f, ↓we_chain, ↓kCh1_eq, ↓kCh2_eq, ↓kCh3_eq, ↓kCh4_eq, ↓kCh5_t, ↓kCh5_f, ↓wfs_nil, ↓wfs_cons, ↓kFs1_eq, ↓kFs2_eq, ↓we_tup, ↓we_lst, ↓kTup_eq, ↓kTupb_eq, ↓kLst_eq, ↓kLstb_eq, ↓we_dict, ↓kDict_eq, ↓kDictb_nil, ↓we_dictT, ↓kDictT_eq, ↓kDictTb_2, ↓wa_pairs0, ↓wa_pairs, ↓wo_no, ↓wo_sm, ↓kSm_eq, ↓we_sl, ↓kSl1_eq, ↓kSl2_eq, ↓kSl3_eq, ↓kSl4_eq, ↓we_m0, ↓we_m1, ↓kM0_eq, ↓kM1_eq, ↓kM1b_eq, ↓kM1c_eq, ↓wg_slot, ↓kGSlot_eq, ↓wgs_nil, ↓wgs_cons, ↓kGs_eq, ↓wg_unp, ↓wi_any, ↓kIAnyA_eq, ↓kIAny_l, ↓kIAny_t, ↓kIAny_s, ↓wi_r1, ↓wi_r2, ↓kR1_eq, ↓kR2_eq, ↓kR2a_eq, ↓we_lc, ↓kLc_eq, ↓kLcE_eq, ↓kLcF_eq, ↓kLcR_eq, ↓kLcT_eq, ↓kLcB_t, ↓kLcB_f, ↓wt_yes, ↓ws_skip, ↓ws_seq, ↓kSeq_nx, ↓kSeq_rt, ↓kSeq_bk, ↓kSeq_ct, ↓ws_expr, ↓kExpr_eq, ↓ws_set, ↓kSet_eq, ↓kSetL_eq, ↓kSetV_fz, ↓kSetV_own, ↓kSetV_plc, ↓kSetP_own, ↓kSetP_ref, ↓kSetP_fz, ↓ws_asg, ↓kAsg_fz, ↓kAsgB_eq, ↓ws_ret, ↓kRet_fz, ↓kRet_own, ↓kRet_plc, ↓kRetP_own, ↓kRetP_ref, ↓ws_retN, ↓ws_if, ↓kIf_t, ↓kIf_f, ↓ws_brk, ↓ws_cnt, ↓ws_for, ↓kFor_eq, ↓kLoop_nx, ↓kLoop_ct, ↓kLoop_bk, ↓kLoop_rt, ↓kBody_eq, ↓wl_eq, ↓kOwnL_own, ↓kOwnL_ref, ↓ws_setIx, ↓kSI1_eq, ↓kSI2_eq, ↓kSI3_eq, ↓kSI4_eq, ↓kSI5_eq, ↓we_app, ↓kAp0_eq, ↓kAp1_eq, ↓kAp2_eq, ↓kAp3_eq, ↓we_user, ↓kUsr_eq, ↓kUsr1_eq, ↓kUsr2_eq, ↓kUsr3_fz, ↓kUsr3_own, ↓warg_nil, ↓warg_fz, ↓warg_own, ↓warg_plc, ↓kArg1_eq, ↓kArg2_eq, ↓kArgP_own, ↓kArgP_ref, ↓kArgP_fz, ↓kArgP_rfz, ↓wc_run, ↓kRun_rt, ↓kRun_nx, ↓kRunR_fz, ↓kRunR_own, ↓wex_nil, ↓wex_fz, ↓wex_ref, ↓wex_rfz, ↓kEx_eq, ↓we_rev, ↓kRev0_eq, ↓kRev_l, ↓wk_eq, ↓kOwnK_own, ↓kOwnK_ref, ↓ws_setKey, ↓kSK1_eq, ↓kSK2_eq, ↓kSK3_eq, ↓kSK4_s, ↓kSK4_i, ↓kSK5_eq, ↓kSK6_eq, ↓we_get1, ↓kG1_eq, ↓kG2_d, ↓kG3_eq, ↓kG4_d, ↓kG5_s, ↓kG5_i, ↓we_get2, ↓kH1_eq, ↓kH2_d, ↓kH3_eq, ↓kH3b_eq, ↓kH4_d, ↓kH5_s, ↓kH5_i, ↓kWh_t, ↓kWh_f, ↓ws_while, ↓we_ext, ↓kEx0_eq, ↓kEx1_eq, ↓kEx3_eq, ↓kJ_nx, ↓kJ_rt, ↓kJ_bk, ↓kJ_ct, ↓kIs_eq, ↓kIsE_eq, wp_some, backSVs_nil, backSVs_cons, lock_unb, lock_fz, lock_own, plain_fz, plain_own, enter_fz, enter_own, put_ownE, put_refE, back_oo, back_of, back_ro, back_rf, back_fz, back_rfz, freeze_own, freeze_ref, freeze_fz, backAt_eq, findSV_nil, findSV_nil2, findSV_plc, findSV_fz, findSV_own, apart_nil, apart_fz, apart_own, apart_plc, placed_nil, placed_fz, placed_own, placed_plc, wipeE_nil, wipeE_cons, backE_nil, backE_cons, unlocked_nil, unlocked_cons, List.set_cons_zero, List.set_cons_succ, List.getD_cons_zero, List.getD_cons_succ, List.getElem?_cons_zero, List.getElem?_cons_succ, List.map_cons, List.map_nil, List.cons_append, List.nil_append, List.replicate_succ, List.replicate_zero, List.length_cons, List.length_nil, List.all_cons, List.all_nil, Nat.reduceSub, Nat.reduceAdd, Nat.reduceLeDiff, Nat.reduceEqDiff, Nat.reduceLT, Nat.zero_add, Bool.not_true, Bool.not_false, Bool.and_true, Bool.true_and, Bool.and_self, and_true, true_and, if_true, reduceIte, reduceCtorEq, decide_true, decide_false, Bool.false_eq_true, Bool.or_false, Bool.or_true, Bool.false_or, Bool.true_or, Bool.and_false, Bool.false_and, Nat.le_refl, lineN, Nat.one_ne_zero, Nat.zero_ne_one, addD_i, subD_i, negD_i, cmpI_i, eqD_i, neD_i, eqD_s, neD_s, eqD_b, neD_b, isD_n, isD_b, isNotD_n, isNotD_b, isBool_b, isNone_n, isNone_b, isNone_i, isNone_s, isNone_l, isNone_t, isNone_d, isi_eq, lenD_l, lenD_t, absD_n, maxD_m, minD_m, intD_i, listD_l, listD_t, tupleD_l, tupleD_t, isiB, mulSD_i, divD_i, modD_i, powD_i, ixD_l, ixD_t, ixD_s, slD_l, slD_t, slD_s, lenD_s, addD_s, addD_l, addD_t, strD_i, wp_bind, wp_guard, atI_0, atI_1, atI_2, atI_3, atI_4, ixN_0, ixN_1, ixN_2, Int.reduceNeg, Int.reduceSub, Int.reduceAdd, listD_s, tupleD_s, mulSD_s, small64_eq, decide_eq_true_eq, or_true, true_or, Int.reducePow, Int.reduceToNat, Int.reduceLE, Int.reduceLT, Int.reduceMul, Int.reduceEq, Int.zero_add, Nat.reducePow, Nat.reduceMul, Int.reduceAbs, rangeD_1, rangeD_2, rangeD_3, sortedD_l, maxLD_l, minLD_l, sumLD_l, reprD_1, ixD_ds, ixD_di, inD_ds, inD_di, notInD_ds, notInD_di, dictPD_l, intsOf_nil, intsOf_cons, Option.bind_some, List.max?_cons', List.min?_cons', List.foldl_cons, List.foldl_nil, kDictb_s, kDictb_int, Int.cast_ofNat_Int, upperD_eq, cutS_S, S_cps, S_len', SX.S_len, SX.S_cat, S_mk, repS_S, inD_S, notInD_S, signD_S, ixD_S, cutG_none, cutG_but, cutD_G, lit_0, lit_1, lit_2, lit_3, lit_4])
    exact k' _ _ _ (Int.emod_nonneg _ (by omega)) (Int.emod_lt_of_pos _ h0)
  · (try simp only [↓wx_0, ↓wx_s, ↓wv_fz, ↓wv_own, ↓wv_plc, ↓kView_fz, ↓kView_own, ↓kView_ref, ↓kView_rfz, ↓wf_fz, ↓wf_own, ↓wf_plc, ↓kFix_fz, ↓kFix_rfz, ↓kFix_own, ↓kFix_ref, ↓we_lit, ↓we_slot, ↓kSlot_fz, ↓kSlot_rfz, ↓kSlot_own, ↓kSlot_ref, ↓wa_nil, ↓wa_cons, ↓kCons1_eq, ↓kCons2_eq, ↓wvs_nil, ↓wvs_cons, ↓kVs1_eq, ↓kVs2_eq, ↓we_op2, ↓kOp2a_eq, ↓kOp2b_eq, ↓kOp2c_eq, ↓kOp2d_eq, ↓we_op1, ↓kOp1a_eq, ↓kOp1b_eq, ↓we_call, ↓kCalla_eq, ↓kCallb_eq, ↓wt_asT, ↓kAsT_eq, ↓wt_and, ↓wt_or, ↓wt_not, ↓kAnd_t, ↓kAnd_f, ↓kOr_t, ↓kOr_f, ↓kNot_eq, ↓we_eT, ↓kET_eq, ↓we_if, ↓kIfE_t, ↓kIfE_f, ↓we_chain, ↓kCh1_eq, ↓kCh2_eq, ↓kCh3_eq, ↓kCh4_eq, ↓kCh5_t, ↓kCh5_f, ↓wfs_nil, ↓wfs_cons, ↓kFs1_eq, ↓kFs2_eq, ↓we_tup, ↓we_lst, ↓kTup_eq, ↓kTupb_eq, ↓kLst_eq, ↓kLstb_eq, ↓we_dict, ↓kDict_eq, ↓kDictb_nil, ↓we_dictT, ↓kDictT_eq, ↓kDictTb_2, ↓wa_pairs0, ↓wa_pairs, ↓wo_no, ↓wo_sm, ↓kSm_eq, ↓we_sl, ↓kSl1_eq, ↓kSl2_eq, ↓kSl3_eq, ↓kSl4_eq, ↓we_m0, ↓we_m1, ↓kM0_eq, ↓kM1_eq, ↓kM1b_eq, ↓kM1c_eq, ↓wg_slot, ↓kGSlot_eq, ↓wgs_nil, ↓wgs_cons, ↓kGs_eq, ↓wg_unp, ↓wi_any, ↓kIAnyA_eq, ↓kIAny_l, ↓kIAny_t, ↓kIAny_s, ↓wi_r1, ↓wi_r2, ↓kR1_eq, ↓kR2_eq, ↓kR2a_eq, ↓we_lc, ↓kLc_eq, ↓kLcE_eq, ↓kLcF_eq, ↓kLcR_eq, ↓kLcT_eq, ↓kLcB_t, ↓kLcB_f, ↓wt_yes, ↓ws_skip, ↓ws_seq, ↓kSeq_nx, ↓kSeq_rt, ↓kSeq_bk, ↓kSeq_ct, ↓ws_expr, ↓kExpr_eq, ↓ws_set, ↓kSet_eq, ↓kSetL_eq, ↓kSetV_fz, ↓kSetV_own, ↓kSetV_plc, ↓kSetP_own, ↓kSetP_ref, ↓kSetP_fz, ↓ws_asg, ↓kAsg_fz, ↓kAsgB_eq, ↓ws_ret, ↓kRet_fz, ↓kRet_own, ↓kRet_plc, ↓kRetP_own, ↓kRetP_ref, ↓ws_retN, ↓ws_if, ↓kIf_t, ↓kIf_f, ↓ws_brk, ↓ws_cnt, ↓ws_for, ↓kFor_eq, ↓kLoop_nx, ↓kLoop_ct, ↓kLoop_bk, ↓kLoop_rt, ↓kBody_eq, ↓wl_eq, ↓kOwnL_own, ↓kOwnL_ref, ↓ws_setIx, ↓kSI1_eq, ↓kSI2_eq, ↓kSI3_eq, ↓kSI4_eq, ↓kSI5_eq, ↓we_app, ↓kAp0_eq, ↓kAp1_eq, ↓kAp2_eq, ↓kAp3_eq, ↓we_user, ↓kUsr_eq, ↓kUsr1_eq, ↓kUsr2_eq, ↓kUsr3_fz, ↓kUsr3_own, ↓warg_nil, ↓warg_fz, ↓warg_own, ↓warg_plc, ↓kArg1_eq, ↓kArg2_eq, ↓kArgP_own, ↓kArgP_ref, ↓kArgP_fz, ↓kArgP_rfz, ↓wc_run, ↓kRun_rt, ↓kRun_nx, ↓kRunR_fz, ↓kRunR_own, ↓wex_nil, ↓wex_fz, ↓wex_ref, ↓wex_rfz, ↓kEx_eq, ↓we_rev, ↓kRev0_eq, ↓kRev_l, ↓wk_eq, ↓kOwnK_own, ↓kOwnK_ref, ↓ws_setKey, ↓kSK1_eq, ↓kSK2_eq, ↓kSK3_eq, ↓kSK4_s, ↓kSK4_i, ↓kSK5_eq, ↓kSK6_eq, ↓we_get1, ↓kG1_eq, ↓kG2_d, ↓kG3_eq, ↓kG4_d, ↓kG5_s, ↓kG5_i, ↓we_get2, ↓kH1_eq, ↓kH2_d, ↓kH3_eq, ↓kH3b_eq, ↓kH4_d, ↓kH5_s, ↓kH5_i, ↓kWh_t, ↓kWh_f, ↓ws_while, ↓we_ext, ↓kEx0_eq, ↓kEx1_eq, ↓kEx3_eq, ↓kJ_nx, ↓kJ_rt, ↓kJ_bk, ↓kJ_ct, ↓kIs_eq, ↓kIsE_eq, wp_some, backSVs_nil, backSVs_cons, lock_unb, lock_fz, lock_own, plain_fz, plain_own, enter_fz, enter_own, put_ownE, put_refE, back_oo, back_of, back_ro, back_rf, back_fz, back_rfz, freeze_own, freeze_ref, freeze_fz, backAt_eq, findSV_nil, findSV_nil2, findSV_plc, findSV_fz, findSV_own, apart_nil, apart_fz, apart_own, apart_plc, placed_nil, placed_fz, placed_own, placed_plc, wipeE_nil, wipeE_cons, backE_nil, backE_cons, unlocked_nil, unlocked_cons, List.set_cons_zero, List.set_cons_succ, List.getD_cons_zero, List.getD_cons_succ, List.getElem?_cons_zero, List.getElem?_cons_succ, List.map_cons, List.map_nil, List.cons_append, List.nil_append, List.replicate_succ, List.replicate_zero, List.length_cons, List.length_nil, List.all_cons, List.all_nil, Nat.reduceSub, Nat.reduceAdd, Nat.reduceLeDiff, Nat.reduceEqDiff, Nat.reduceLT, Nat.zero_add, Bool.not_true, Bool.not_false, Bool.and_true, Bool.true_and, Bool.and_self, and_true, true_and, if_true, reduceIte, reduceCtorEq, decide_true, decide_false, Bool.false_eq_true, Bool.or_false, Bool.or_true, Bool.false_or, Bool.true_or, Bool.and_false, Bool.false_and, Nat.le_refl, lineN, Nat.one_ne_zero, Nat.zero_ne_one, addD_i, subD_i, negD_i, cmpI_i, eqD_i, neD_i, eqD_s, neD_s, eqD_b, neD_b, isD_n, isD_b, isNotD_n, isNotD_b, isBool_b, isNone_n, isNone_b, isNone_i, isNone_s, isNone_l, isNone_t, isNone_d, isi_eq, lenD_l, lenD_t, absD_n, maxD_m, minD_m, intD_i, listD_l, listD_t, tupleD_l, tupleD_t, isiB, mulSD_i, divD_i, modD_i, powD_i, ixD_l, ixD_t, ixD_s, slD_l, slD_t, slD_s, lenD_s, addD_s, addD_l, addD_t, strD_i, wp_bind, wp_guard, atI_0, atI_1, atI_2, atI_3, atI_4, ixN_0, ixN_1, ixN_2, Int.reduceNeg, Int.reduceSub, Int.reduceAdd, listD_s, tupleD_s, mulSD_s, small64_eq, decide_eq_true_eq, or_true, true_or, Int.reducePow, Int.reduceToNat, Int.reduceLE, Int.reduceLT, Int.reduceMul, Int.reduceEq, Int.zero_add, Nat.reducePow, Nat.reduceMul, Int.reduceAbs, rangeD_1, rangeD_2, rangeD_3, sortedD_l, maxLD_l, minLD_l, sumLD_l, reprD_1, ixD_ds, ixD_di, inD_ds, inD_di, notInD_ds, notInD_di, dictPD_l, intsOf_nil, intsOf_cons, Option.bind_some, List.max?_cons', List.min?_cons', List.foldl_cons, List.foldl_nil, kDictb_s, kDictb_int, Int.cast_ofNat_Int, upperD_eq, cutS_S, S_cps, S_len', SX.S_len, SX.S_cat, S_mk, repS_S, inD_S, notInD_S, signD_S, ixD_S, cutG_none, cutG_but, cutD_G, lit_0, lit_1, lit_2, lit_3, lit_4])
    refine kIf_j (fun e => ∃ x : Int, e = [.ref (.list [.list (ns.map PyData.int), .int (p + 1), .int c]), .fz (.int m), .unb, .fz (.int p), .fz (.int x), .unb, .unb]) (fun hl => ?_) (fun hl => ?_) ?_
    · have hl' : (0 : Int) < (ns.map PyData.int).length := of_decide_eq_true hl
      (try simp only [↓wx_0, ↓wx_s, ↓wv_fz, ↓wv_own, ↓wv_plc, ↓kView_fz, ↓kView_own, ↓kView_ref, ↓kView_rfz, ↓wf_fz, ↓wf_own, ↓wf_plc, ↓kFix_fz, ↓kFix_rfz, ↓kFix_own, ↓kFix_ref, ↓we_lit, ↓we_slot, ↓kSlot_fz, ↓kSlot_rfz, ↓kSlot_own, ↓kSlot_ref, ↓wa_nil, ↓wa_cons, ↓kCons1_eq, ↓kCons2_eq, ↓wvs_nil, ↓wvs_cons, ↓kVs1_eq, ↓kVs2_eq, ↓we_op2, ↓kOp2a_eq, ↓kOp2b_eq, ↓kOp2c_eq, ↓kOp2d_eq, ↓we_op1, ↓kOp1a_eq, ↓kOp1b_eq, ↓we_call, ↓kCalla_eq, ↓kCallb_eq, ↓wt_asT, ↓kAsT_eq, ↓wt_and, ↓wt_or, ↓wt_not, ↓kAnd_t, ↓kAnd_f, ↓kOr_t, ↓kOr_f, ↓kNot_eq, ↓we_eT, ↓kET_eq, ↓we_if, ↓kIfE_t, ↓kIfE_f, ↓we_chain, ↓kCh1_eq, ↓kCh2_eq, ↓kCh3_eq, ↓kCh4_eq, ↓kCh5_t, ↓kCh5_f, ↓wfs_nil, ↓wfs_cons, ↓kFs1_eq, ↓kFs2_eq, ↓we_tup, ↓we_lst, ↓kTup_eq, ↓kTupb_eq, ↓kLst_eq, ↓kLstb_eq, ↓we_dict, ↓kDict_eq, ↓kDictb_nil, ↓we_dictT, ↓kDictT_eq, ↓kDictTb_2, ↓wa_pairs0, ↓wa_pairs, ↓wo_no, ↓wo_sm, ↓kSm_eq, ↓we_sl, ↓kSl1_eq, ↓kSl2_eq, ↓kSl3_eq, ↓kSl4_eq, ↓we_m0, ↓we_m1, ↓kM0_eq, ↓kM1_eq, ↓kM1b_eq, ↓kM1c_eq, ↓wg_slot, ↓kGSlot_eq, ↓wgs_nil, ↓wgs_cons, ↓kGs_eq, ↓wg_unp, ↓wi_any, ↓kIAnyA_eq, ↓kIAny_l, ↓kIAny_t, ↓kIAny_s, ↓wi_r1, ↓wi_r2, ↓kR1_eq, ↓kR2_eq, ↓kR2a_eq, ↓we_lc, ↓kLc_eq, ↓kLcE_eq, ↓kLcF_eq, ↓kLcR_eq, ↓kLcT_eq, ↓kLcB_t, ↓kLcB_f, ↓wt_yes, ↓ws_skip, ↓ws_seq, ↓kSeq_nx, ↓kSeq_rt, ↓kSeq_bk, ↓kSeq_ct, ↓ws_expr, ↓kExpr_eq, ↓ws_set, ↓kSet_eq, ↓kSetL_eq, ↓kSetV_fz, ↓kSetV_own, ↓kSetV_plc, ↓kSetP_own, ↓kSetP_ref, ↓kSetP_fz, ↓ws_asg, ↓kAsg_fz, ↓kAsgB_eq, ↓ws_ret, ↓kRet_fz, ↓kRet_own, ↓kRet_plc, ↓kRetP_own, ↓kRetP_ref, ↓ws_retN, ↓ws_if, ↓kIf_t, ↓kIf_f, ↓ws_brk, ↓ws_cnt, ↓ws_for, ↓kFor_eq, ↓kLoop_nx, ↓kLoop_ct, ↓kLoop_bk, ↓kLoop_rt, ↓kBody_eq, ↓wl_eq, ↓kOwnL_own, ↓kOwnL_ref, ↓ws_setIx, ↓kSI1_eq, ↓kSI2_eq, ↓kSI3_eq, ↓kSI4_eq, ↓kSI5_eq, ↓we_app, ↓kAp0_eq, ↓kAp1_eq, ↓kAp2_eq, ↓kAp3_eq, ↓we_user, ↓kUsr_eq, ↓kUsr1_eq, ↓kUsr2_eq, ↓kUsr3_fz, ↓kUsr3_own, ↓warg_nil, ↓warg_fz, ↓warg_own, ↓warg_plc, ↓kArg1_eq, ↓kArg2_eq, ↓kArgP_own, ↓kArgP_ref, ↓kArgP_fz, ↓kArgP_rfz, ↓wc_run, ↓kRun_rt, ↓kRun_nx, ↓kRunR_fz, ↓kRunR_own, ↓wex_nil, ↓wex_fz, ↓wex_ref, ↓wex_rfz, ↓kEx_eq, ↓we_rev, ↓kRev0_eq, ↓kRev_l, ↓wk_eq, ↓kOwnK_own, ↓kOwnK_ref, ↓ws_setKey, ↓kSK1_eq, ↓kSK2_eq, ↓kSK3_eq, ↓kSK4_s, ↓kSK4_i, ↓kSK5_eq, ↓kSK6_eq, ↓we_get1, ↓kG1_eq, ↓kG2_d, ↓kG3_eq, ↓kG4_d, ↓kG5_s, ↓kG5_i, ↓we_get2, ↓kH1_eq, ↓kH2_d, ↓kH3_eq, ↓kH3b_eq, ↓kH4_d, ↓kH5_s, ↓kH5_i, ↓kWh_t, ↓kWh_f, ↓ws_while, ↓we_ext, ↓kEx0_eq, ↓kEx1_eq, ↓kEx3_eq, ↓kJ_nx, ↓kJ_rt, ↓kJ_bk, ↓kJ_ct, ↓kIs_eq, ↓kIsE_eq, wp_some, backSVs_nil, backSVs_cons, lock_unb, lock_fz, lock_own, plain_fz, plain_own, enter_fz, enter_own, put_ownE, put_refE, back_oo, back_of, back_ro, back_rf, back_fz, back_rfz, freeze_own, freeze_ref, freeze_fz, backAt_eq, findSV_nil, findSV_nil2, findSV_plc, findSV_fz, findSV_own, apart_nil, apart_fz, apart_own, apart_plc, placed_nil, placed_fz, placed_own, placed_plc, wipeE_nil, wipeE_cons, backE_nil, backE_cons, unlocked_nil, unlocked_cons, List.set_cons_zero, List.set_cons_succ, List.getD_cons_zero, List.getD_cons_succ, List.getElem?_cons_zero, List.getElem?_cons_succ, List.map_cons, List.map_nil, List.cons_append, List.nil_append, List.replicate_succ, List.replicate_zero, List.length_cons, List.length_nil, List.all_cons, List.all_nil, Nat.reduceSub, Nat.reduceAdd, Nat.reduceLeDiff, Nat.reduceEqDiff, Nat.reduceLT, Nat.zero_add, Bool.not_true, Bool.not_false, Bool.and_true, Bool.true_and, Bool.and_self, and_true, true_and, if_true, reduceIte, reduceCtorEq, decide_true, decide_false, Bool.false_eq_true, Bool.or_false, Bool.or_true, Bool.false_or, Bool.true_or, Bool.and_false, Bool.false_and, Nat.le_refl, lineN, Nat.one_ne_zero, Nat.zero_ne_one, addD_i, subD_i, negD_i, cmpI_i, eqD_i, neD_i, eqD_s, neD_s, eqD_b, neD_b, isD_n, isD_b, isNotD_n, isNotD_b, isBool_b, isNone_n, isNone_b, isNone_i, isNone_s, isNone_l, isNone_t, isNone_d, isi_eq, lenD_l, lenD_t, absD_n, maxD_m, minD_m, intD_i, listD_l, listD_t, tupleD_l, tupleD_t, isiB, mulSD_i, divD_i, modD_i, powD_i, ixD_l, ixD_t, ixD_s, slD_l, slD_t, slD_s, lenD_s, addD_s, addD_l, addD_t, strD_i, wp_bind, wp_guard, atI_0, atI_1, atI_2, atI_3, atI_4, ixN_0, ixN_1, ixN_2, Int.reduceNeg, Int.reduceSub, Int.reduceAdd, listD_s, tupleD_s, mulSD_s, small64_eq, decide_eq_true_eq, or_true, true_or, Int.reducePow, Int.reduceToNat, Int.reduceLE, Int.reduceLT, Int.reduceMul, Int.reduceEq, Int.zero_add, Nat.reducePow, Nat.reduceMul, Int.reduceAbs, rangeD_1, rangeD_2, rangeD_3, sortedD_l, maxLD_l, minLD_l, sumLD_l, reprD_1, ixD_ds, ixD_di, inD_ds, inD_di, notInD_ds, notInD_di, dictPD_l, intsOf_nil, intsOf_cons, Option.bind_some, List.max?_cons', List.min?_cons', List.foldl_cons, List.foldl_nil, kDictb_s, kDictb_int, Int.cast_ofNat_Int, upperD_eq, cutS_S, S_cps, S_len', SX.S_len, SX.S_cat, S_mk, repS_S, inD_S, notInD_S, signD_S, ixD_S, cutG_none, cutG_but, cutD_G, lit_0, lit_1, lit_2, lit_3, lit_4])
      refine ⟨hl', wp_at (Int.emod_nonneg _ (by omega)) (Int.emod_lt_of_pos _ hl') fun a ha => ?_⟩
      (try simp only [↓wx_0, ↓wx_s, ↓wv_fz, ↓wv_own, ↓wv_plc, ↓kView_fz, ↓kView_own, ↓kView_ref, ↓kView_rfz, ↓wf_fz, ↓wf_own, ↓wf_plc, ↓kFix_fz, ↓kFix_rfz, ↓kFix_own, ↓kFix_ref, ↓we_lit, ↓we_slot, ↓kSlot_fz, ↓kSlot_rfz, ↓kSlot_own, ↓kSlot_ref, ↓wa_nil, ↓wa_cons, ↓kCons1_eq, ↓kCons2_eq, ↓wvs_nil, ↓wvs_cons, ↓kVs1_eq, ↓kVs2_eq, ↓we_op2, ↓kOp2a_eq, ↓kOp2b_eq, ↓kOp2c_eq, ↓kOp2d_eq, ↓we_op1, ↓kOp1a_eq, ↓kOp1b_eq, ↓we_call, ↓kCalla_eq, ↓kCallb_eq, ↓wt_asT, ↓kAsT_eq, ↓wt_and, ↓wt_or, ↓wt_not, ↓kAnd_t, ↓kAnd_f, ↓kOr_t, ↓kOr_f, ↓kNot_eq, ↓we_eT, ↓kET_eq, ↓we_if, ↓kIfE_t, ↓kIfE_f, ↓we_chain, ↓kCh1_eq, ↓kCh2_eq, ↓kCh3_eq, ↓kCh4_eq, ↓kCh5_t, ↓kCh5_f, ↓wfs_nil, ↓wfs_cons, ↓kFs1_eq, ↓kFs2_eq, ↓we_tup, ↓we_lst, ↓kTup_eq, ↓kTupb_eq, ↓kLst_eq, ↓kLstb_eq, ↓we_dict, ↓kDict_eq, ↓kDictb_nil, ↓we_dictT, ↓kDictT_eq, ↓kDictTb_2, ↓wa_pairs0, ↓wa_pairs, ↓wo_no, ↓wo_sm, ↓kSm_eq, ↓we_sl, ↓kSl1_eq, ↓kSl2_eq, ↓kSl3_eq, ↓kSl4_eq, ↓we_m0, ↓we_m1, ↓kM0_eq, ↓kM1_eq, ↓kM1b_eq, ↓kM1c_eq, ↓wg_slot, ↓kGSlot_eq, ↓wgs_nil, ↓wgs_cons, ↓kGs_eq, ↓wg_unp, ↓wi_any, ↓kIAnyA_eq, ↓kIAny_l, ↓kIAny_t, ↓kIAny_s, ↓wi_r1, ↓wi_r2, ↓kR1_eq, ↓kR2_eq, ↓kR2a_eq, ↓we_lc, ↓kLc_eq, ↓kLcE_eq, ↓kLcF_eq, ↓kLcR_eq, ↓kLcT_eq, ↓kLcB_t, ↓kLcB_f, ↓wt_yes, ↓ws_skip, ↓ws_seq, ↓kSeq_nx, ↓kSeq_rt, ↓kSeq_bk, ↓kSeq_ct, ↓ws_expr, ↓kExpr_eq, ↓ws_set, ↓kSet_eq, ↓kSetL_eq, ↓kSetV_fz, ↓kSetV_own, ↓kSetV_plc, ↓kSetP_own, ↓kSetP_ref, ↓kSetP_fz, ↓ws_asg, ↓kAsg_fz, ↓kAsgB_eq, ↓ws_ret, ↓kRet_fz, ↓kRet_own, ↓kRet_plc, ↓kRetP_own, ↓kRetP_ref, ↓ws_retN, ↓ws_if, ↓kIf_t, ↓kIf_f, ↓ws_brk, ↓ws_cnt, ↓ws_for, ↓kFor_eq, ↓kLoop_nx, ↓kLoop_ct, ↓kLoop_bk, ↓kLoop_rt, ↓kBody_eq, ↓wl_eq, ↓kOwnL_own, ↓kOwnL_ref, ↓ws_setIx, ↓kSI1_eq, ↓kSI2_eq, ↓kSI3_eq, ↓kSI4_eq, ↓kSI5_eq, ↓we_app, ↓kAp0_eq, ↓kAp1_eq, ↓kAp2_eq, ↓kAp3_eq, ↓we_user, ↓kUsr_eq, ↓kUsr1_eq, ↓kUsr2_eq, ↓kUsr3_fz, ↓kUsr3_own, ↓warg_nil, ↓warg_fz, ↓warg_own, ↓warg_plc, ↓kArg1_eq, ↓kArg2_eq, ↓kArgP_own, ↓kArgP_ref, ↓kArgP_fz, ↓kArgP_rfz, ↓wc_run, ↓kRun_rt, ↓kRun_nx, ↓kRunR_fz, ↓kRunR_own, ↓wex_nil, ↓wex_fz, ↓wex_ref, ↓wex_rfz, ↓kEx_eq, ↓we_rev, ↓kRev0_eq, ↓kRev_l, ↓wk_eq, ↓kOwnK_own, ↓kOwnK_ref, ↓ws_setKey, ↓kSK1_eq, ↓kSK2_eq, ↓kSK3_eq, ↓kSK4_s, ↓kSK4_i, ↓kSK5_eq, ↓kSK6_eq, ↓we_get1, ↓kG1_eq, ↓kG2_d, ↓kG3_eq, ↓kG4_d, ↓kG5_s, ↓kG5_i, ↓we_get2, ↓kH1_eq, ↓kH2_d, ↓kH3_eq, ↓kH3b_eq, ↓kH4_d, ↓kH5_s, ↓kH5_i, ↓kWh_t, ↓kWh_f, ↓ws_while, ↓we_ext, ↓kEx0_eq, ↓kEx1_eq, ↓kEx3_eq, ↓kJ_nx, ↓kJ_rt, ↓kJ_bk, ↓kJ_ct, ↓kIs_eq, ↓kIsE_eq, wp_some, backSVs_nil, backSVs_cons, lock_unb, lock_fz, lock_own, plain_fz, plain_own, enter_fz, enter_own, put_ownE, put_refE, back_oo, back_of, back_ro, back_rf, back_fz, back_rfz, freeze_own, freeze_ref, freeze_fz, backAt_eq, findSV_nil, findSV_nil2, findSV_plc, findSV_fz, findSV_own, apart_nil, apart_fz, apart_own, apart_plc, placed_nil, placed_fz, placed_own, placed_plc, wipeE_nil, wipeE_cons, backE_nil, backE_cons, unlocked_nil, unlocked_cons, List.set_cons_zero, List.set_cons_succ, List.getD_cons_zero, List.getD_cons_succ, List.getElem?_cons_zero, List.getElem?_cons_succ, List.map_cons, List.map_nil, List.cons_append, List.nil_append, List.replicate_succ, List.replicate_zero, List.length_cons, List.length_nil, List.all_cons, List.all_nil, Nat.reduceSub, Nat.reduceAdd, Nat.reduceLeDiff, Nat.reduceEqDiff, Nat.reduceLT, Nat.zero_add, Bool.not_true, Bool.not_false, Bool.and_true, Bool.true_and, Bool.and_self, and_true, true_and, if_true, reduceIte, reduceCtorEq, decide_true, decide_false, Bool.false_eq_true, Bool.or_false, Bool.or_true, Bool.false_or, Bool.true_or, Bool.and_false, Bool.false_and, Nat.le_refl, lineN, Nat.one_ne_zero, Nat.zero_ne_one, addD_i, subD_i, negD_i, cmpI_i, eqD_i, neD_i, eqD_s, neD_s, eqD_b, neD_b, isD_n, isD_b, isNotD_n, isNotD_b, isBool_b, isNone_n, isNone_b, isNone_i, isNone_s, isNone_l, isNone_t, isNone_d, isi_eq, lenD_l, lenD_t, absD_n, maxD_m, minD_m, intD_i, listD_l, listD_t, tupleD_l, tupleD_t, isiB, mulSD_i, divD_i, modD_i, powD_i, ixD_l, ixD_t, ixD_s, slD_l, slD_t, slD_s, lenD_s, addD_s, addD_l, addD_t, strD_i, wp_bind, wp_guard, atI_0, atI_1, atI_2, atI_3, atI_4, ixN_0, ixN_1, ixN_2, Int.reduceNeg, Int.reduceSub, Int.reduceAdd, listD_s, tupleD_s, mulSD_s, small64_eq, decide_eq_true_eq, or_true, true_or, Int.reducePow, Int.reduceToNat, Int.reduceLE, Int.reduceLT, Int.reduceMul, Int.reduceEq, Int.zero_add, Nat.reducePow, Nat.reduceMul, Int.reduceAbs, rangeD_1, rangeD_2, rangeD_3, sortedD_l, maxLD_l, minLD_l, sumLD_l, reprD_1, ixD_ds, ixD_di, inD_ds, inD_di, notInD_ds, notInD_di, dictPD_l, intsOf_nil, intsOf_cons, Option.bind_some, List.max?_cons', List.min?_cons', List.foldl_cons, List.foldl_nil, kDictb_s, kDictb_int, Int.cast_ofNat_Int, upperD_eq, cutS_S, S_cps, S_len', SX.S_len, SX.S_cat, S_mk, repS_S, inD_S, notInD_S, signD_S, ixD_S, cutG_none, cutG_but, cutD_G, lit_0, lit_1, lit_2, lit_3, lit_4])
      rw [List.getElem?_map] at ha
      obtain ⟨x, _, rfl⟩ := Option.map_eq_some_iff.mp ha
      exact ⟨x, rfl⟩
    · (try simp only [↓wx_0, ↓wx_s, ↓wv_fz, ↓wv_own, ↓wv_plc, ↓kView_fz, ↓kView_own, ↓kView_ref, ↓kView_rfz, ↓wf_fz, ↓wf_own, ↓wf_plc, ↓kFix_fz, ↓kFix_rfz, ↓kFix_own, ↓kFix_ref, ↓we_lit, ↓we_slot, ↓kSlot_fz, ↓kSlot_rfz, ↓kSlot_own, ↓kSlot_ref, ↓wa_nil, ↓wa_cons, ↓kCons1_eq, ↓kCons2_eq, ↓wvs_nil, ↓wvs_cons, ↓kVs1_eq, ↓kVs2_eq, ↓we_op2, ↓kOp2a_eq, ↓kOp2b_eq, ↓kOp2c_eq, ↓kOp2d_eq, ↓we_op1, ↓kOp1a_eq, ↓kOp1b_eq, ↓we_call, ↓kCalla_eq, ↓kCallb_eq, ↓wt_asT, ↓kAsT_eq, ↓wt_and, ↓wt_or, ↓wt_not, ↓kAnd_t, ↓kAnd_f, ↓kOr_t, ↓kOr_f, ↓kNot_eq, ↓we_eT, ↓kET_eq, ↓we_if, ↓kIfE_t, ↓kIfE_f, ↓we_chain, ↓kCh1_eq, ↓kCh2_eq, ↓kCh3_eq, ↓kCh4_eq, ↓kCh5_t, ↓kCh5_f, ↓wfs_nil, ↓wfs_cons, ↓kFs1_eq, ↓kFs2_eq, ↓we_tup, ↓we_lst, ↓kTup_eq, ↓kTupb_eq, ↓kLst_eq, ↓kLstb_eq, ↓we_dict, ↓kDict_eq, ↓kDictb_nil, ↓we_dictT, ↓kDictT_eq, ↓kDictTb_2, ↓wa_pairs0, ↓wa_pairs, ↓wo_no, ↓wo_sm, ↓kSm_eq, ↓we_sl, ↓kSl1_eq, ↓kSl2_eq, ↓kSl3_eq, ↓kSl4_eq, ↓we_m0, ↓we_m1, ↓kM0_eq, ↓kM1_eq, ↓kM1b_eq, ↓kM1c_eq, ↓wg_slot, ↓kGSlot_eq, ↓wgs_nil, ↓wgs_cons, ↓kGs_eq, ↓wg_unp, ↓wi_any, ↓kIAnyA_eq, ↓kIAny_l, ↓kIAny_t, ↓kIAny_s, ↓wi_r1, ↓wi_r2, ↓kR1_eq, ↓kR2_eq, ↓kR2a_eq, ↓we_lc, ↓kLc_eq, ↓kLcE_eq, ↓kLcF_eq, ↓kLcR_eq, ↓kLcT_eq, ↓kLcB_t, ↓kLcB_f, ↓wt_yes, ↓ws_skip, ↓ws_seq, ↓kSeq_nx, ↓kSeq_rt, ↓kSeq_bk, ↓kSeq_ct, ↓ws_expr, ↓kExpr_eq, ↓ws_set, ↓kSet_eq, ↓kSetL_eq, ↓kSetV_fz, ↓kSetV_own, ↓kSetV_plc, ↓kSetP_own, ↓kSetP_ref, ↓kSetP_fz, ↓ws_asg, ↓kAsg_fz, ↓kAsgB_eq, ↓ws_ret, ↓kRet_fz, ↓kRet_own, ↓kRet_plc, ↓kRetP_own, ↓kRetP_ref, ↓ws_retN, ↓ws_if, ↓kIf_t, ↓kIf_f, ↓ws_brk, ↓ws_cnt, ↓ws_for, ↓kFor_eq, ↓kLoop_nx, ↓kLoop_ct, ↓kLoop_bk, ↓kLoop_rt, ↓kBody_eq, ↓wl_eq, ↓kOwnL_own, ↓kOwnL_ref, ↓ws_setIx, ↓kSI1_eq, ↓kSI2_eq, ↓kSI3_eq, ↓kSI4_eq, ↓kSI5_eq, ↓we_app, ↓kAp0_eq, ↓kAp1_eq, ↓kAp2_eq, ↓kAp3_eq, ↓we_user, ↓kUsr_eq, ↓kUsr1_eq, ↓kUsr2_eq, ↓kUsr3_fz, ↓kUsr3_own, ↓warg_nil, ↓warg_fz, ↓warg_own, ↓warg_plc, ↓kArg1_eq, ↓kArg2_eq, ↓kArgP_own, ↓kArgP_ref, ↓kArgP_fz, ↓kArgP_rfz, ↓wc_run, ↓kRun_rt, ↓kRun_nx, ↓kRunR_fz, ↓kRunR_own, ↓wex_nil, ↓wex_fz, ↓wex_ref, ↓wex_rfz, ↓kEx_eq, ↓we_rev, ↓kRev0_eq, ↓kRev_l, ↓wk_eq, ↓kOwnK_own, ↓kOwnK_ref, ↓ws_setKey, ↓kSK1_eq, ↓kSK2_eq, ↓kSK3_eq, ↓kSK4_s, ↓kSK4_i, ↓kSK5_eq, ↓kSK6_eq, ↓we_get1, ↓kG1_eq, ↓kG2_d, ↓kG3_eq, ↓kG4_d, ↓kG5_s, ↓kG5_i, ↓we_get2, ↓kH1_eq, ↓kH2_d, ↓kH3_eq, ↓kH3b_eq, ↓kH4_d, ↓kH5_s, ↓kH5_i, ↓kWh_t, ↓kWh_f, ↓ws_while, ↓we_ext, ↓kEx0_eq, ↓kEx1_eq, ↓kEx3_eq, ↓kJ_nx, ↓kJ_rt, ↓kJ_bk, ↓kJ_ct, ↓kIs_eq, ↓kIsE_eq, wp_some, backSVs_nil, backSVs_cons, lock_unb, lock_fz, lock_own, plain_fz, plain_own, enter_fz, enter_own, put_ownE, put_refE, back_oo, back_of, back_ro, back_rf, back_fz, back_rfz, freeze_own, freeze_ref, freeze_fz, backAt_eq, findSV_nil, findSV_nil2, findSV_plc, findSV_fz, findSV_own, apart_nil, apart_fz, apart_own, apart_plc, placed_nil, placed_fz, placed_own, placed_plc, wipeE_nil, wipeE_cons, backE_nil, backE_cons, unlocked_nil, unlocked_cons, List.set_cons_zero, List.set_cons_succ, List.getD_cons_zero, List.getD_cons_succ, List.getElem?_cons_zero, List.getElem?_cons_succ, List.map_cons, List.map_nil, List.cons_append, List.nil_append, List.replicate_succ, List.replicate_zero, List.length_cons, List.length_nil, List.all_cons, List.all_nil, Nat.reduceSub, Nat.reduceAdd, Nat.reduceLeDiff, Nat.reduceEqDiff, Nat.reduceLT, Nat.zero_add, Bool.not_true, Bool.not_false, Bool.and_true, Bool.true_and, Bool.and_self, and_true, true_and, if_true, reduceIte, reduceCtorEq, decide_true, decide_false, Bool.false_eq_true, Bool.or_false, Bool.or_true, Bool.false_or, Bool.true_or, Bool.and_false, Bool.false_and, Nat.le_refl, lineN, Nat.one_ne_zero, Nat.zero_ne_one, addD_i, subD_i, negD_i, cmpI_i, eqD_i, neD_i, eqD_s, neD_s, eqD_b, neD_b, isD_n, isD_b, isNotD_n, isNotD_b, isBool_b, isNone_n, isNone_b, isNone_i, isNone_s, isNone_l, isNone_t, isNone_d, isi_eq, lenD_l, lenD_t, absD_n, maxD_m, minD_m, intD_i, listD_l, listD_t, tupleD_l, tupleD_t, isiB, mulSD_i, divD_i, modD_i, powD_i, ixD_l, ixD_t, ixD_s, slD_l, slD_t, slD_s, lenD_s, addD_s, addD_l, addD_t, strD_i, wp_bind, wp_guard, atI_0, atI_1, atI_2, atI_3, atI_4, ixN_0, ixN_1, ixN_2, Int.reduceNeg, Int.reduceSub, Int.reduceAdd, listD_s, tupleD_s, mulSD_s, small64_eq, decide_eq_true_eq, or_true, true_or, Int.reducePow, Int.reduceToNat, Int.reduceLE, Int.reduceLT, Int.reduceMul, Int.reduceEq, Int.zero_add, Nat.reducePow, Nat.reduceMul, Int.reduceAbs, rangeD_1, rangeD_2, rangeD_3, sortedD_l, maxLD_l, minLD_l, sumLD_l, reprD_1, ixD_ds, ixD_di, inD_ds, inD_di, notInD_ds, notInD_di, dictPD_l, intsOf_nil, intsOf_cons, Option.bind_some, List.max?_cons', List.min?_cons', List.foldl_cons, List.foldl_nil, kDictb_s, kDictb_int, Int.cast_ofNat_Int, upperD_eq, cutS_S, S_cps, S_len', SX.S_len, SX.S_cat, S_mk, repS_S, inD_S, notInD_S, signD_S, ixD_S, cutG_none, cutG_but, cutD_G, lit_0, lit_1, lit_2, lit_3, lit_4])
      exact ⟨0, rfl⟩
    · rintro e ⟨x, rfl⟩
      (try simp only [↓wx_0, ↓wx_s, ↓wv_fz, ↓wv_own, ↓wv_plc, ↓kView_fz, ↓kView_own, ↓kView_ref, ↓kView_rfz, ↓wf_fz, ↓wf_own, ↓wf_plc, ↓kFix_fz, ↓kFix_rfz, ↓kFix_own, ↓kFix_ref, ↓we_lit, ↓we_slot, ↓kSlot_fz, ↓kSlot_rfz, ↓kSlot_own, ↓kSlot_ref, ↓wa_nil, ↓wa_cons, ↓kCons1_eq, ↓kCons2_eq, ↓wvs_nil, ↓wvs_cons, ↓kVs1_eq, ↓kVs2_eq, ↓we_op2, ↓kOp2a_eq, ↓kOp2b_eq, ↓kOp2c_eq, ↓kOp2d_eq, ↓we_op1, ↓kOp1a_eq, ↓kOp1b_eq, ↓we_call, ↓kCalla_eq, ↓kCallb_eq, ↓wt_asT, ↓kAsT_eq, ↓wt_and, ↓wt_or, ↓wt_not, ↓kAnd_t, ↓kAnd_f, ↓kOr_t, ↓kOr_f, ↓kNot_eq, ↓we_eT, ↓kET_eq, ↓we_if, ↓kIfE_t, ↓kIfE_f, ↓we_chain, ↓kCh1_eq, ↓kCh2_eq, ↓kCh3_eq, ↓kCh4_eq, ↓kCh5_t, ↓kCh5_f, ↓wfs_nil, ↓wfs_cons, ↓kFs1_eq, ↓kFs2_eq, ↓we_tup, ↓we_lst, ↓kTup_eq, ↓kTupb_eq, ↓kLst_eq, ↓kLstb_eq, ↓we_dict, ↓kDict_eq, ↓kDictb_nil, ↓we_dictT, ↓kDictT_eq, ↓kDictTb_2, ↓wa_pairs0, ↓wa_pairs, ↓wo_no, ↓wo_sm, ↓kSm_eq, ↓we_sl, ↓kSl1_eq, ↓kSl2_eq, ↓kSl3_eq, ↓kSl4_eq, ↓we_m0, ↓we_m1, ↓kM0_eq, ↓kM1_eq, ↓kM1b_eq, ↓kM1c_eq, ↓wg_slot, ↓kGSlot_eq, ↓wgs_nil, ↓wgs_cons, ↓kGs_eq, ↓wg_unp, ↓wi_any, ↓kIAnyA_eq, ↓kIAny_l, ↓kIAny_t, ↓kIAny_s, ↓wi_r1, ↓wi_r2, ↓kR1_eq, ↓kR2_eq, ↓kR2a_eq, ↓we_lc, ↓kLc_eq, ↓kLcE_eq, ↓kLcF_eq, ↓kLcR_eq, ↓kLcT_eq, ↓kLcB_t, ↓kLcB_f, ↓wt_yes, ↓ws_skip, ↓ws_seq, ↓kSeq_nx, ↓kSeq_rt, ↓kSeq_bk, ↓kSeq_ct, ↓ws_expr, ↓kExpr_eq, ↓ws_set, ↓kSet_eq, ↓kSetL_eq, ↓kSetV_fz, ↓kSetV_own, ↓kSetV_plc, ↓kSetP_own, ↓kSetP_ref, ↓kSetP_fz, ↓ws_asg, ↓kAsg_fz, ↓kAsgB_eq, ↓ws_ret, ↓kRet_fz, ↓kRet_own, ↓kRet_plc, ↓kRetP_own, ↓kRetP_ref, ↓ws_retN, ↓ws_if, ↓kIf_t, ↓kIf_f, ↓ws_brk, ↓ws_cnt, ↓ws_for, ↓kFor_eq, ↓kLoop_nx, ↓kLoop_ct, ↓kLoop_bk, ↓kLoop_rt, ↓kBody_eq, ↓wl_eq, ↓kOwnL_own, ↓kOwnL_ref, ↓ws_setIx, ↓kSI1_eq, ↓kSI2_eq, ↓kSI3_eq, ↓kSI4_eq, ↓kSI5_eq, ↓we_app, ↓kAp0_eq, ↓kAp1_eq, ↓kAp2_eq, ↓kAp3_eq, ↓we_user, ↓kUsr_eq, ↓kUsr1_eq, ↓kUsr2_eq, ↓kUsr3_fz, ↓kUsr3_own, ↓warg_nil, ↓warg_fz, ↓warg_own, ↓warg_plc, ↓kArg1_eq, ↓kArg2_eq, ↓kArgP_own, ↓kArgP_ref, ↓kArgP_fz, ↓kArgP_rfz, ↓wc_run, ↓kRun_rt, ↓kRun_nx, ↓kRunR_fz, ↓kRunR_own, ↓wex_nil, ↓wex_fz, ↓wex_ref, ↓wex_rfz, ↓kEx_eq, ↓we_rev, ↓kRev0_eq, ↓kRev_l, ↓wk_eq, ↓kOwnK_own, ↓kOwnK_ref, ↓ws_setKey, ↓kSK1_eq, ↓kSK2_eq, ↓kSK3_eq, ↓kSK4_s, ↓kSK4_i, ↓kSK5_eq, ↓kSK6_eq, ↓we_get1, ↓kG1_eq, ↓kG2_d, ↓kG3_eq, ↓kG4_d, ↓kG5_s, ↓kG5_i, ↓we_get2, ↓kH1_eq, ↓kH2_d, ↓kH3_eq, ↓kH3b_eq, ↓kH4_d, ↓kH5_s, ↓kH5_i, ↓kWh_t, ↓kWh_f, ↓ws_while, ↓we_ext, ↓kEx0_eq, ↓kEx1_eq, ↓kEx3_eq, ↓kJ_nx, ↓kJ_rt, ↓kJ_bk, ↓kJ_ct, ↓kIs_eq, ↓kIsE_eq, wp_some, backSVs_nil, backSVs_cons, lock_unb, lock_fz, lock_own, plain_fz, plain_own, enter_fz, enter_own, put_ownE, put_refE, back_oo, back_of, back_ro, back_rf, back_fz, back_rfz, freeze_own, freeze_ref, freeze_fz, backAt_eq, findSV_nil, findSV_nil2, findSV_plc, findSV_fz, findSV_own, apart_nil, apart_fz, apart_own, apart_plc, placed_nil, placed_fz, placed_own, placed_plc, wipeE_nil, wipeE_cons, backE_nil, backE_cons, unlocked_nil, unlocked_cons, List.set_cons_zero, List.set_cons_succ, List.getD_cons_zero, List.getD_cons_succ, List.getElem?_cons_zero, List.getElem?_cons_succ, List.map_cons, List.map_nil, List.cons_append, List.nil_append, List.replicate_succ, List.replicate_zero, List.length_cons, List.length_nil, List.all_cons, List.all_nil, Nat.reduceSub, Nat.reduceAdd, Nat.reduceLeDiff, Nat.reduceEqDiff, Nat.reduceLT, Nat.zero_add, Bool.not_true, Bool.not_false, Bool.and_true, Bool.true_and, Bool.and_self, and_true, true_and, if_true, reduceIte, reduceCtorEq, decide_true, decide_false, Bool.false_eq_true, Bool.or_false, Bool.or_true, Bool.false_or, Bool.true_or, Bool.and_false, Bool.false_and, Nat.le_refl, lineN, Nat.one_ne_zero, Nat.zero_ne_one, addD_i, subD_i, negD_i, cmpI_i, eqD_i, neD_i, eqD_s, neD_s, eqD_b, neD_b, isD_n, isD_b, isNotD_n, isNotD_b, isBool_b, isNone_n, isNone_b, isNone_i, isNone_s, isNone_l, isNone_t, isNone_d, isi_eq, lenD_l, lenD_t, absD_n, maxD_m, minD_m, intD_i, listD_l, listD_t, tupleD_l, tupleD_t, isiB, mulSD_i, divD_i, modD_i, powD_i, ixD_l, ixD_t, ixD_s, slD_l, slD_t, slD_s, lenD_s, addD_s, addD_l, addD_t, strD_i, wp_bind, wp_guard, atI_0, atI_1, atI_2, atI_3, atI_4, ixN_0, ixN_1, ixN_2, Int.reduceNeg, Int.reduceSub, Int.reduceAdd, listD_s, tupleD_s, mulSD_s, small64_eq, decide_eq_true_eq, or_true, true_or, Int.reducePow, Int.reduceToNat, Int.reduceLE, Int.reduceLT, Int.reduceMul, Int.reduceEq, Int.zero_add, Nat.reducePow, Nat.reduceMul, Int.reduceAbs, rangeD_1, rangeD_2, rangeD_3, sortedD_l, maxLD_l, minLD_l, sumLD_l, reprD_1, ixD_ds, ixD_di, inD_ds, inD_di, notInD_ds, notInD_di, dictPD_l, intsOf_nil, intsOf_cons, Option.bind_some, List.max?_cons', List.min?_cons', List.foldl_cons, List.foldl_nil, kDictb_s, kDictb_int, Int.cast_ofNat_Int, upperD_eq, cutS_S, S_cps, S_len', SX.S_len, SX.S_cat, S_mk, repS_S, inD_S, notInD_S, signD_S, ixD_S, cutG_none, cutG_but, cutD_G, lit_0, lit_1, lit_2, lit_3, lit_4])
      refine kAnd_j (decide ((1000000000000000000 : Int) ≤ (x.natAbs : Int))) (fun _ => ?_) ?_
      · (try simp only [↓wx_0, ↓wx_s, ↓wv_fz, ↓wv_own, ↓wv_plc, ↓kView_fz, ↓kView_own, ↓kView_ref, ↓kView_rfz, ↓wf_fz, ↓wf_own, ↓wf_plc, ↓kFix_fz, ↓kFix_rfz, ↓kFix_own, ↓kFix_ref, ↓we_lit, ↓we_slot, ↓kSlot_fz, ↓kSlot_rfz, ↓kSlot_own, ↓kSlot_ref, ↓wa_nil, ↓wa_cons, ↓kCons1_eq, ↓kCons2_eq, ↓wvs_nil, ↓wvs_cons, ↓kVs1_eq, ↓kVs2_eq, ↓we_op2, ↓kOp2a_eq, ↓kOp2b_eq, ↓kOp2c_eq, ↓kOp2d_eq, ↓we_op1, ↓kOp1a_eq, ↓kOp1b_eq, ↓we_call, ↓kCalla_eq, ↓kCallb_eq, ↓wt_asT, ↓kAsT_eq, ↓wt_and, ↓wt_or, ↓wt_not, ↓kAnd_t, ↓kAnd_f, ↓kOr_t, ↓kOr_f, ↓kNot_eq, ↓we_eT, ↓kET_eq, ↓we_if, ↓kIfE_t, ↓kIfE_f, ↓we_chain, ↓kCh1_eq, ↓kCh2_eq, ↓kCh3_eq, ↓kCh4_eq, ↓kCh5_t, ↓kCh5_f, ↓wfs_nil, ↓wfs_cons, ↓kFs1_eq, ↓kFs2_eq, ↓we_tup, ↓we_lst, ↓kTup_eq, ↓kTupb_eq, ↓kLst_eq, ↓kLstb_eq, ↓we_dict, ↓kDict_eq, ↓kDictb_nil, ↓we_dictT, ↓kDictT_eq, ↓kDictTb_2, ↓wa_pairs0, ↓wa_pairs, ↓wo_no, ↓wo_sm, ↓kSm_eq, ↓we_sl, ↓kSl1_eq, ↓kSl2_eq, ↓kSl3_eq, ↓kSl4_eq, ↓we_m0, ↓we_m1, ↓kM0_eq, ↓kM1_eq, ↓kM1b_eq, ↓kM1c_eq, ↓wg_slot, ↓kGSlot_eq, ↓wgs_nil, ↓wgs_cons, ↓kGs_eq, ↓wg_unp, ↓wi_any, ↓kIAnyA_eq, ↓kIAny_l, ↓kIAny_t, ↓kIAny_s, ↓wi_r1, ↓wi_r2, ↓kR1_eq, ↓kR2_eq, ↓kR2a_eq, ↓we_lc, ↓kLc_eq, ↓kLcE_eq, ↓kLcF_eq, ↓kLcR_eq, ↓kLcT_eq, ↓kLcB_t, ↓kLcB_f, ↓wt_yes, ↓ws_skip, ↓ws_seq, ↓kSeq_nx, ↓kSeq_rt, ↓kSeq_bk, ↓kSeq_ct, ↓ws_expr, ↓kExpr_eq, ↓ws_set, ↓kSet_eq, ↓kSetL_eq, ↓kSetV_fz, ↓kSetV_own, ↓kSetV_plc, ↓kSetP_own, ↓kSetP_ref, ↓kSetP_fz, ↓ws_asg, ↓kAsg_fz, ↓kAsgB_eq, ↓ws_ret, ↓kRet_fz, ↓kRet_own, ↓kRet_plc, ↓kRetP_own, ↓kRetP_ref, ↓ws_retN, ↓ws_if, ↓kIf_t, ↓kIf_f, ↓ws_brk, ↓ws_cnt, ↓ws_for, ↓kFor_eq, ↓kLoop_nx, ↓kLoop_ct, ↓kLoop_bk, ↓kLoop_rt, ↓kBody_eq, ↓wl_eq, ↓kOwnL_own, ↓kOwnL_ref, ↓ws_setIx, ↓kSI1_eq, ↓kSI2_eq, ↓kSI3_eq, ↓kSI4_eq, ↓kSI5_eq, ↓we_app, ↓kAp0_eq, ↓kAp1_eq, ↓kAp2_eq, ↓kAp3_eq, ↓we_user, ↓kUsr_eq, ↓kUsr1_eq, ↓kUsr2_eq, ↓kUsr3_fz, ↓kUsr3_own, ↓warg_nil, ↓warg_fz, ↓warg_own, ↓warg_plc, ↓kArg1_eq, ↓kArg2_eq, ↓kArgP_own, ↓kArgP_ref, ↓kArgP_fz, ↓kArgP_rfz, ↓wc_run, ↓kRun_rt, ↓kRun_nx, ↓kRunR_fz, ↓kRunR_own, ↓wex_nil, ↓wex_fz, ↓wex_ref, ↓wex_rfz, ↓kEx_eq, ↓we_rev, ↓kRev0_eq, ↓kRev_l, ↓wk_eq, ↓kOwnK_own, ↓kOwnK_ref, ↓ws_setKey, ↓kSK1_eq, ↓kSK2_eq, ↓kSK3_eq, ↓kSK4_s, ↓kSK4_i, ↓kSK5_eq, ↓kSK6_eq, ↓we_get1, ↓kG1_eq, ↓kG2_d, ↓kG3_eq, ↓kG4_d, ↓kG5_s, ↓kG5_i, ↓we_get2, ↓kH1_eq, ↓kH2_d, ↓kH3_eq, ↓kH3b_eq, ↓kH4_d, ↓kH5_s, ↓kH5_i, ↓kWh_t, ↓kWh_f, ↓ws_while, ↓we_ext, ↓kEx0_eq, ↓kEx1_eq, ↓kEx3_eq, ↓kJ_nx, ↓kJ_rt, ↓kJ_bk, ↓kJ_ct, ↓kIs_eq, ↓kIsE_eq, wp_some, backSVs_nil, backSVs_cons, lock_unb, lock_fz, lock_own, plain_fz, plain_own, enter_fz, enter_own, put_ownE, put_refE, back_oo, back_of, back_ro, back_rf, back_fz, back_rfz, freeze_own, freeze_ref, freeze_fz, backAt_eq, findSV_nil, findSV_nil2, findSV_plc, findSV_fz, findSV_own, apart_nil, apart_fz, apart_own, apart_plc, placed_nil, placed_fz, placed_own, placed_plc, wipeE_nil, wipeE_cons, backE_nil, backE_cons, unlocked_nil, unlocked_cons, List.set_cons_zero, List.set_cons_succ, List.getD_cons_zero, List.getD_cons_succ, List.getElem?_cons_zero, List.getElem?_cons_succ, List.map_cons, List.map_nil, List.cons_append, List.nil_append, List.replicate_succ, List.replicate_zero, List.length_cons, List.length_nil, List.all_cons, List.all_nil, Nat.reduceSub, Nat.reduceAdd, Nat.reduceLeDiff, Nat.reduceEqDiff, Nat.reduceLT, Nat.zero_add, Bool.not_true, Bool.not_false, Bool.and_true, Bool.true_and, Bool.and_self, and_true, true_and, if_true, reduceIte, reduceCtorEq, decide_true, decide_false, Bool.false_eq_true, Bool.or_false, Bool.or_true, Bool.false_or, Bool.true_or, Bool.and_false, Bool.false_and, Nat.le_refl, lineN, Nat.one_ne_zero, Nat.zero_ne_one, addD_i, subD_i, negD_i, cmpI_i, eqD_i, neD_i, eqD_s, neD_s, eqD_b, neD_b, isD_n, isD_b, isNotD_n, isNotD_b, isBool_b, isNone_n, isNone_b, isNone_i, isNone_s, isNone_l, isNone_t, isNone_d, isi_eq, lenD_l, lenD_t, absD_n, maxD_m, minD_m, intD_i, listD_l, listD_t, tupleD_l, tupleD_t, isiB, mulSD_i, divD_i, modD_i, powD_i, ixD_l, ixD_t, ixD_s, slD_l, slD_t, slD_s, lenD_s, addD_s, addD_l, addD_t, strD_i, wp_bind, wp_guard, atI_0, atI_1, atI_2, atI_3, atI_4, ixN_0, ixN_1, ixN_2, Int.reduceNeg, Int.reduceSub, Int.reduceAdd, listD_s, tupleD_s, mulSD_s, small64_eq, decide_eq_true_eq, or_true, true_or, Int.reducePow, Int.reduceToNat, Int.reduceLE, Int.reduceLT, Int.reduceMul, Int.reduceEq, Int.zero_add, Nat.reducePow, Nat.reduceMul, Int.reduceAbs, rangeD_1, rangeD_2, rangeD_3, sortedD_l, maxLD_l, minLD_l, sumLD_l, reprD_1, ixD_ds, ixD_di, inD_ds, inD_di, notInD_ds, notInD_di, dictPD_l, intsOf_nil, intsOf_cons, Option.bind_some, List.max?_cons', List.min?_cons', List.foldl_cons, List.foldl_nil, kDictb_s, kDictb_int, Int.cast_ofNat_Int, upperD_eq, cutS_S, S_cps, S_len', SX.S_len, SX.S_cat, S_mk, repS_S, inD_S, notInD_S, signD_S, ixD_S, cutG_none, cutG_but, cutD_G, lit_0, lit_1, lit_2, lit_3, lit_4])
      · refine kIf_i (fun hb => ?_) fun hb => ?_
        · (try simp only [↓wx_0, ↓wx_s, ↓wv_fz, ↓wv_own, ↓wv_plc, ↓kView_fz, ↓kView_own, ↓kView_ref, ↓kView_rfz, ↓wf_fz, ↓wf_own, ↓wf_plc, ↓kFix_fz, ↓kFix_rfz, ↓kFix_own, ↓kFix_ref, ↓we_lit, ↓we_slot, ↓kSlot_fz, ↓kSlot_rfz, ↓kSlot_own, ↓kSlot_ref, ↓wa_nil, ↓wa_cons, ↓kCons1_eq, ↓kCons2_eq, ↓wvs_nil, ↓wvs_cons, ↓kVs1_eq, ↓kVs2_eq, ↓we_op2, ↓kOp2a_eq, ↓kOp2b_eq, ↓kOp2c_eq, ↓kOp2d_eq, ↓we_op1, ↓kOp1a_eq, ↓kOp1b_eq, ↓we_call, ↓kCalla_eq, ↓kCallb_eq, ↓wt_asT, ↓kAsT_eq, ↓wt_and, ↓wt_or, ↓wt_not, ↓kAnd_t, ↓kAnd_f, ↓kOr_t, ↓kOr_f, ↓kNot_eq, ↓we_eT, ↓kET_eq, ↓we_if, ↓kIfE_t, ↓kIfE_f, ↓we_chain, ↓kCh1_eq, ↓kCh2_eq, ↓kCh3_eq, ↓kCh4_eq, ↓kCh5_t, ↓kCh5_f, ↓wfs_nil, ↓wfs_cons, ↓kFs1_eq, ↓kFs2_eq, ↓we_tup, ↓we_lst, ↓kTup_eq, ↓kTupb_eq, ↓kLst_eq, ↓kLstb_eq, ↓we_dict, ↓kDict_eq, ↓kDictb_nil, ↓we_dictT, ↓kDictT_eq, ↓kDictTb_2, ↓wa_pairs0, ↓wa_pairs, ↓wo_no, ↓wo_sm, ↓kSm_eq, ↓we_sl, ↓kSl1_eq, ↓kSl2_eq, ↓kSl3_eq, ↓kSl4_eq, ↓we_m0, ↓we_m1, ↓kM0_eq, ↓kM1_eq, ↓kM1b_eq, ↓kM1c_eq, ↓wg_slot, ↓kGSlot_eq, ↓wgs_nil, ↓wgs_cons, ↓kGs_eq, ↓wg_unp, ↓wi_any, ↓kIAnyA_eq, ↓kIAny_l, ↓kIAny_t, ↓kIAny_s, ↓wi_r1, ↓wi_r2, ↓kR1_eq, ↓kR2_eq, ↓kR2a_eq, ↓we_lc, ↓kLc_eq, ↓kLcE_eq, ↓kLcF_eq, ↓kLcR_eq, ↓kLcT_eq, ↓kLcB_t, ↓kLcB_f, ↓wt_yes, ↓ws_skip, ↓ws_seq, ↓kSeq_nx, ↓kSeq_rt, ↓kSeq_bk, ↓kSeq_ct, ↓ws_expr, ↓kExpr_eq, ↓ws_set, ↓kSet_eq, ↓kSetL_eq, ↓kSetV_fz, ↓kSetV_own, ↓kSetV_plc, ↓kSetP_own, ↓kSetP_ref, ↓kSetP_fz, ↓ws_asg, ↓kAsg_fz, ↓kAsgB_eq, ↓ws_ret, ↓kRet_fz, ↓kRet_own, ↓kRet_plc, ↓kRetP_own, ↓kRetP_ref, ↓ws_retN, ↓ws_if, ↓kIf_t, ↓kIf_f, ↓ws_brk, ↓ws_cnt, ↓ws_for, ↓kFor_eq, ↓kLoop_nx, ↓kLoop_ct, ↓kLoop_bk, ↓kLoop_rt, ↓kBody_eq, ↓wl_eq, ↓kOwnL_own, ↓kOwnL_ref, ↓ws_setIx, ↓kSI1_eq, ↓kSI2_eq, ↓kSI3_eq, ↓kSI4_eq, ↓kSI5_eq, ↓we_app, ↓kAp0_eq, ↓kAp1_eq, ↓kAp2_eq, ↓kAp3_eq, ↓we_user, ↓kUsr_eq, ↓kUsr1_eq, ↓kUsr2_eq, ↓kUsr3_fz, ↓kUsr3_own, ↓warg_nil, ↓warg_fz, ↓warg_own, ↓warg_plc, ↓kArg1_eq, ↓kArg2_eq, ↓kArgP_own, ↓kArgP_ref, ↓kArgP_fz, ↓kArgP_rfz, ↓wc_run, ↓kRun_rt, ↓kRun_nx, ↓kRunR_fz, ↓kRunR_own, ↓wex_nil, ↓wex_fz, ↓wex_ref, ↓wex_rfz, ↓kEx_eq, ↓we_rev, ↓kRev0_eq, ↓kRev_l, ↓wk_eq, ↓kOwnK_own, ↓kOwnK_ref, ↓ws_setKey, ↓kSK1_eq, ↓kSK2_eq, ↓kSK3_eq, ↓kSK4_s, ↓kSK4_i, ↓kSK5_eq, ↓kSK6_eq, ↓we_get1, ↓kG1_eq, ↓kG2_d, ↓kG3_eq, ↓kG4_d, ↓kG5_s, ↓kG5_i, ↓we_get2, ↓kH1_eq, ↓kH2_d, ↓kH3_eq, ↓kH3b_eq, ↓kH4_d, ↓kH5_s, ↓kH5_i, ↓kWh_t, ↓kWh_f, ↓ws_while, ↓we_ext, ↓kEx0_eq, ↓kEx1_eq, ↓kEx3_eq, ↓kJ_nx, ↓kJ_rt, ↓kJ_bk, ↓kJ_ct, ↓kIs_eq, ↓kIsE_eq, wp_some, backSVs_nil, backSVs_cons, lock_unb, lock_fz, lock_own, plain_fz, plain_own, enter_fz, enter_own, put_ownE, put_refE, back_oo, back_of, back_ro, back_rf, back_fz, back_rfz, freeze_own, freeze_ref, freeze_fz, backAt_eq, findSV_nil, findSV_nil2, findSV_plc, findSV_fz, findSV_own, apart_nil, apart_fz, apart_own, apart_plc, placed_nil, placed_fz, placed_own, placed_plc, wipeE_nil, wipeE_cons, backE_nil, backE_cons, unlocked_nil, unlocked_cons, List.set_cons_zero, List.set_cons_succ, List.getD_cons_zero, List.getD_cons_succ, List.getElem?_cons_zero, List.getElem?_cons_succ, List.map_cons, List.map_nil, List.cons_append, List.nil_append, List.replicate_succ, List.replicate_zero, List.length_cons, List.length_nil, List.all_cons, List.all_nil, Nat.reduceSub, Nat.reduceAdd, Nat.reduceLeDiff, Nat.reduceEqDiff, Nat.reduceLT, Nat.zero_add, Bool.not_true, Bool.not_false, Bool.and_true, Bool.true_and, Bool.and_self, and_true, true_and, if_true, reduceIte, reduceCtorEq, decide_true, decide_false, Bool.false_eq_true, Bool.or_false, Bool.or_true, Bool.false_or, Bool.true_or, Bool.and_false, Bool.false_and, Nat.le_refl, lineN, Nat.one_ne_zero, Nat.zero_ne_one, addD_i, subD_i, negD_i, cmpI_i, eqD_i, neD_i, eqD_s, neD_s, eqD_b, neD_b, isD_n, isD_b, isNotD_n, isNotD_b, isBool_b, isNone_n, isNone_b, isNone_i, isNone_s, isNone_l, isNone_t, isNone_d, isi_eq, lenD_l, lenD_t, absD_n, maxD_m, minD_m, intD_i, listD_l, listD_t, tupleD_l, tupleD_t, isiB, mulSD_i, divD_i, modD_i, powD_i, ixD_l, ixD_t, ixD_s, slD_l, slD_t, slD_s, lenD_s, addD_s, addD_l, addD_t, strD_i, wp_bind, wp_guard, atI_0, atI_1, atI_2, atI_3, atI_4, ixN_0, ixN_1, ixN_2, Int.reduceNeg, Int.reduceSub, Int.reduceAdd, listD_s, tupleD_s, mulSD_s, small64_eq, decide_eq_true_eq, or_true, true_or, Int.reducePow, Int.reduceToNat, Int.reduceLE, Int.reduceLT, Int.reduceMul, Int.reduceEq, Int.zero_add, Nat.reducePow, Nat.reduceMul, Int.reduceAbs, rangeD_1, rangeD_2, rangeD_3, sortedD_l, maxLD_l, minLD_l, sumLD_l, reprD_1, ixD_ds, ixD_di, inD_ds, inD_di, notInD_ds, notInD_di, dictPD_l, intsOf_nil, intsOf_cons, Option.bind_some, List.max?_cons', List.min?_cons', List.foldl_cons, List.foldl_nil, kDictb_s, kDictb_int, Int.cast_ofNat_Int, upperD_eq, cutS_S, S_cps, S_len', SX.S_len, SX.S_cat, S_mk, repS_S, inD_S, notInD_S, signD_S, ixD_S, cutG_none, cutG_but, cutD_G, lit_0, lit_1, lit_2, lit_3, lit_4])
          refine ⟨⟨h0, h1⟩, ?_⟩
          (try simp only [↓wx_0, ↓wx_s, ↓wv_fz, ↓wv_own, ↓wv_plc, ↓kView_fz, ↓kView_own, ↓kView_ref, ↓kView_rfz, ↓wf_fz, ↓wf_own, ↓wf_plc, ↓kFix_fz, ↓kFix_rfz, ↓kFix_own, ↓kFix_ref, ↓we_lit, ↓we_slot, ↓kSlot_fz, ↓kSlot_rfz, ↓kSlot_own, ↓kSlot_ref, ↓wa_nil, ↓wa_cons, ↓kCons1_eq, ↓kCons2_eq, ↓wvs_nil, ↓wvs_cons, ↓kVs1_eq, ↓kVs2_eq, ↓we_op2, ↓kOp2a_eq, ↓kOp2b_eq, ↓kOp2c_eq, ↓kOp2d_eq, ↓we_op1, ↓kOp1a_eq, ↓kOp1b_eq, ↓we_call, ↓kCalla_eq, ↓kCallb_eq, ↓wt_asT, ↓kAsT_eq, ↓wt_and, ↓wt_or, ↓wt_not, ↓kAnd_t, ↓kAnd_f, ↓kOr_t, ↓kOr_f, ↓kNot_eq, ↓we_eT, ↓kET_eq, ↓we_if, ↓kIfE_t, ↓kIfE_f, ↓we_chain, ↓kCh1_eq, ↓kCh2_eq, ↓kCh3_eq, ↓kCh4_eq, ↓kCh5_t, ↓kCh5_f, ↓wfs_nil, ↓wfs_cons, ↓kFs1_eq, ↓kFs2_eq, ↓we_tup, ↓we_lst, ↓kTup_eq, ↓kTupb_eq, ↓kLst_eq, ↓kLstb_eq, ↓we_dict, ↓kDict_eq, ↓kDictb_nil, ↓we_dictT, ↓kDictT_eq, ↓kDictTb_2, ↓wa_pairs0, ↓wa_pairs, ↓wo_no, ↓wo_sm, ↓kSm_eq, ↓we_sl, ↓kSl1_eq, ↓kSl2_eq, ↓kSl3_eq, ↓kSl4_eq, ↓we_m0, ↓we_m1, ↓kM0_eq, ↓kM1_eq, ↓kM1b_eq, ↓kM1c_eq, ↓wg_slot, ↓kGSlot_eq, ↓wgs_nil, ↓wgs_cons, ↓kGs_eq, ↓wg_unp, ↓wi_any, ↓kIAnyA_eq, ↓kIAny_l, ↓kIAny_t, ↓kIAny_s, ↓wi_r1, ↓wi_r2, ↓kR1_eq, ↓kR2_eq, ↓kR2a_eq, ↓we_lc, ↓kLc_eq, ↓kLcE_eq, ↓kLcF_eq, ↓kLcR_eq, ↓kLcT_eq, ↓kLcB_t, ↓kLcB_f, ↓wt_yes, ↓ws_skip, ↓ws_seq, ↓kSeq_nx, ↓kSeq_rt, ↓kSeq_bk, ↓kSeq_ct, ↓ws_expr, ↓kExpr_eq, ↓ws_set, ↓kSet_eq, ↓kSetL_eq, ↓kSetV_fz, ↓kSetV_own, ↓kSetV_plc, ↓kSetP_own, ↓kSetP_ref, ↓kSetP_fz, ↓ws_asg, ↓kAsg_fz, ↓kAsgB_eq, ↓ws_ret, ↓kRet_fz, ↓kRet_own, ↓kRet_plc, ↓kRetP_own, ↓kRetP_ref, ↓ws_retN, ↓ws_if, ↓kIf_t, ↓kIf_f, ↓ws_brk, ↓ws_cnt, ↓ws_for, ↓kFor_eq, ↓kLoop_nx, ↓kLoop_ct, ↓kLoop_bk, ↓kLoop_rt, ↓kBody_eq, ↓wl_eq, ↓kOwnL_own, ↓kOwnL_ref, ↓ws_setIx, ↓kSI1_eq, ↓kSI2_eq, ↓kSI3_eq, ↓kSI4_eq, ↓kSI5_eq, ↓we_app, ↓kAp0_eq, ↓kAp1_eq, ↓kAp2_eq, ↓kAp3_eq, ↓we_user, ↓kUsr_eq, ↓kUsr1_eq, ↓kUsr2_eq, ↓kUsr3_fz, ↓kUsr3_own, ↓warg_nil, ↓warg_fz, ↓warg_own, ↓warg_plc, ↓kArg1_eq, ↓kArg2_eq, ↓kArgP_own, ↓kArgP_ref, ↓kArgP_fz, ↓kArgP_rfz, ↓wc_run, ↓kRun_rt, ↓kRun_nx, ↓kRunR_fz, ↓kRunR_own, ↓wex_nil, ↓wex_fz, ↓wex_ref, ↓wex_rfz, ↓kEx_eq, ↓we_rev, ↓kRev0_eq, ↓kRev_l, ↓wk_eq, ↓kOwnK_own, ↓kOwnK_ref, ↓ws_setKey, ↓kSK1_eq, ↓kSK2_eq, ↓kSK3_eq, ↓kSK4_s, ↓kSK4_i, ↓kSK5_eq, ↓kSK6_eq, ↓we_get1, ↓kG1_eq, ↓kG2_d, ↓kG3_eq, ↓kG4_d, ↓kG5_s, ↓kG5_i, ↓we_get2, ↓kH1_eq, ↓kH2_d, ↓kH3_eq, ↓kH3b_eq, ↓kH4_d, ↓kH5_s, ↓kH5_i, ↓kWh_t, ↓kWh_f, ↓ws_while, ↓we_ext, ↓kEx0_eq, ↓kEx1_eq, ↓kEx3_eq, ↓kJ_nx, ↓kJ_rt, ↓kJ_bk, ↓kJ_ct, ↓kIs_eq, ↓kIsE_eq, wp_some, backSVs_nil, backSVs_cons, lock_unb, lock_fz, lock_own, plain_fz, plain_own, enter_fz, enter_own, put_ownE, put_refE, back_oo, back_of, back_ro, back_rf, back_fz, back_rfz, freeze_own, freeze_ref, freeze_fz, backAt_eq, findSV_nil, findSV_nil2, findSV_plc, findSV_fz, findSV_own, apart_nil, apart_fz, apart_own, apart_plc, placed_nil, placed_fz, placed_own, placed_plc, wipeE_nil, wipeE_cons, backE_nil, backE_cons, unlocked_nil, unlocked_cons, List.set_cons_zero, List.set_cons_succ, List.getD_cons_zero, List.getD_cons_succ, List.getElem?_cons_zero, List.getElem?_cons_succ, List.map_cons, List.map_nil, List.cons_append, List.nil_append, List.replicate_succ, List.replicate_zero, List.length_cons, List.length_nil, List.all_cons, List.all_nil, Nat.reduceSub, Nat.reduceAdd, Nat.reduceLeDiff, Nat.reduceEqDiff, Nat.reduceLT, Nat.zero_add, Bool.not_true, Bool.not_false, Bool.and_true, Bool.true_and, Bool.and_self, and_true, true_and, if_true, reduceIte, reduceCtorEq, decide_true, decide_false, Bool.false_eq_true, Bool.or_false, Bool.or_true, Bool.false_or, Bool.true_or, Bool.and_false, Bool.false_and, Nat.le_refl, lineN, Nat.one_ne_zero, Nat.zero_ne_one, addD_i, subD_i, negD_i, cmpI_i, eqD_i, neD_i, eqD_s, neD_s, eqD_b, neD_b, isD_n, isD_b, isNotD_n, isNotD_b, isBool_b, isNone_n, isNone_b, isNone_i, isNone_s, isNone_l, isNone_t, isNone_d, isi_eq, lenD_l, lenD_t, absD_n, maxD_m, minD_m, intD_i, listD_l, listD_t, tupleD_l, tupleD_t, isiB, mulSD_i, divD_i, modD_i, powD_i, ixD_l, ixD_t, ixD_s, slD_l, slD_t, slD_s, lenD_s, addD_s, addD_l, addD_t, strD_i, wp_bind, wp_guard, atI_0, atI_1, atI_2, atI_3, atI_4, ixN_0, ixN_1, ixN_2, Int.reduceNeg, Int.reduceSub, Int.reduceAdd, listD_s, tupleD_s, mulSD_s, small64_eq, decide_eq_true_eq, or_true, true_or, Int.reducePow, Int.reduceToNat, Int.reduceLE, Int.reduceLT, Int.reduceMul, Int.reduceEq, Int.zero_add, Nat.reducePow, Nat.reduceMul, Int.reduceAbs, rangeD_1, rangeD_2, rangeD_3, sortedD_l, maxLD_l, minLD_l, sumLD_l, reprD_1, ixD_ds, ixD_di, inD_ds, inD_di, notInD_ds, notInD_di, dictPD_l, intsOf_nil, intsOf_cons, Option.bind_some, List.max?_cons', List.min?_cons', List.foldl_cons, List.foldl_nil, kDictb_s, kDictb_int, Int.cast_ofNat_Int, upperD_eq, cutS_S, S_cps, S_len', SX.S_len, SX.S_cat, S_mk, repS_S, inD_S, notInD_S, signD_S, ixD_S, cutG_none, cutG_but, cutD_G, lit_0, lit_1, lit_2, lit_3, lit_4])
          exact ⟨h0, k' _ _ _ (Int.emod_nonneg _ (by omega)) (Int.emod_lt_of_pos _ h0)⟩
        · (try simp only [↓wx_0, ↓wx_s, ↓wv_fz, ↓wv_own, ↓wv_plc, ↓kView_fz, ↓kView_own, ↓kView_ref, ↓kView_rfz, ↓wf_fz, ↓wf_own, ↓wf_plc, ↓kFix_fz, ↓kFix_rfz, ↓kFix_own, ↓kFix_ref, ↓we_lit, ↓we_slot, ↓kSlot_fz, ↓kSlot_rfz, ↓kSlot_own, ↓kSlot_ref, ↓wa_nil, ↓wa_cons, ↓kCons1_eq, ↓kCons2_eq, ↓wvs_nil, ↓wvs_cons, ↓kVs1_eq, ↓kVs2_eq, ↓we_op2, ↓kOp2a_eq, ↓kOp2b_eq, ↓kOp2c_eq, ↓kOp2d_eq, ↓we_op1, ↓kOp1a_eq, ↓kOp1b_eq, ↓we_call, ↓kCalla_eq, ↓kCallb_eq, ↓wt_asT, ↓kAsT_eq, ↓wt_and, ↓wt_or, ↓wt_not, ↓kAnd_t, ↓kAnd_f, ↓kOr_t, ↓kOr_f, ↓kNot_eq, ↓we_eT, ↓kET_eq, ↓we_if, ↓kIfE_t, ↓kIfE_f, ↓we_chain, ↓kCh1_eq, ↓kCh2_eq, ↓kCh3_eq, ↓kCh4_eq, ↓kCh5_t, ↓kCh5_f, ↓wfs_nil, ↓wfs_cons, ↓kFs1_eq, ↓kFs2_eq, ↓we_tup, ↓we_lst, ↓kTup_eq, ↓kTupb_eq, ↓kLst_eq, ↓kLstb_eq, ↓we_dict, ↓kDict_eq, ↓kDictb_nil, ↓we_dictT, ↓kDictT_eq, ↓kDictTb_2, ↓wa_pairs0, ↓wa_pairs, ↓wo_no, ↓wo_sm, ↓kSm_eq, ↓we_sl, ↓kSl1_eq, ↓kSl2_eq, ↓kSl3_eq, ↓kSl4_eq, ↓we_m0, ↓we_m1, ↓kM0_eq, ↓kM1_eq, ↓kM1b_eq, ↓kM1c_eq, ↓wg_slot, ↓kGSlot_eq, ↓wgs_nil, ↓wgs_cons, ↓kGs_eq, ↓wg_unp, ↓wi_any, ↓kIAnyA_eq, ↓kIAny_l, ↓kIAny_t, ↓kIAny_s, ↓wi_r1, ↓wi_r2, ↓kR1_eq, ↓kR2_eq, ↓kR2a_eq, ↓we_lc, ↓kLc_eq, ↓kLcE_eq, ↓kLcF_eq, ↓kLcR_eq, ↓kLcT_eq, ↓kLcB_t, ↓kLcB_f, ↓wt_yes, ↓ws_skip, ↓ws_seq, ↓kSeq_nx, ↓kSeq_rt, ↓kSeq_bk, ↓kSeq_ct, ↓ws_expr, ↓kExpr_eq, ↓ws_set, ↓kSet_eq, ↓kSetL_eq, ↓kSetV_fz, ↓kSetV_own, ↓kSetV_plc, ↓kSetP_own, ↓kSetP_ref, ↓kSetP_fz, ↓ws_asg, ↓kAsg_fz, ↓kAsgB_eq, ↓ws_ret, ↓kRet_fz, ↓kRet_own, ↓kRet_plc, ↓kRetP_own, ↓kRetP_ref, ↓ws_retN, ↓ws_if, ↓kIf_t, ↓kIf_f, ↓ws_brk, ↓ws_cnt, ↓ws_for, ↓kFor_eq, ↓kLoop_nx, ↓kLoop_ct, ↓kLoop_bk, ↓kLoop_rt, ↓kBody_eq, ↓wl_eq, ↓kOwnL_own, ↓kOwnL_ref, ↓ws_setIx, ↓kSI1_eq, ↓kSI2_eq, ↓kSI3_eq, ↓kSI4_eq, ↓kSI5_eq, ↓we_app, ↓kAp0_eq, ↓kAp1_eq, ↓kAp2_eq, ↓kAp3_eq, ↓we_user, ↓kUsr_eq, ↓kUsr1_eq, ↓kUsr2_eq, ↓kUsr3_fz, ↓kUsr3_own, ↓warg_nil, ↓warg_fz, ↓warg_own, ↓warg_plc, ↓kArg1_eq, ↓kArg2_eq, ↓kArgP_own, ↓kArgP_ref, ↓kArgP_fz, ↓kArgP_rfz, ↓wc_run, ↓kRun_rt, ↓kRun_nx, ↓kRunR_fz, ↓kRunR_own, ↓wex_nil, ↓wex_fz, ↓wex_ref, ↓wex_rfz, ↓kEx_eq, ↓we_rev, ↓kRev0_eq, ↓kRev_l, ↓wk_eq, ↓kOwnK_own, ↓kOwnK_ref, ↓ws_setKey, ↓kSK1_eq, ↓kSK2_eq, ↓kSK3_eq, ↓kSK4_s, ↓kSK4_i, ↓kSK5_eq, ↓kSK6_eq, ↓we_get1, ↓kG1_eq, ↓kG2_d, ↓kG3_eq, ↓kG4_d, ↓kG5_s, ↓kG5_i, ↓we_get2, ↓kH1_eq, ↓kH2_d, ↓kH3_eq, ↓kH3b_eq, ↓kH4_d, ↓kH5_s, ↓kH5_i, ↓kWh_t, ↓kWh_f, ↓ws_while, ↓we_ext, ↓kEx0_eq, ↓kEx1_eq, ↓kEx3_eq, ↓kJ_nx, ↓kJ_rt, ↓kJ_bk, ↓kJ_ct, ↓kIs_eq, ↓kIsE_eq, wp_some, backSVs_nil, backSVs_cons, lock_unb, lock_fz, lock_own, plain_fz, plain_own, enter_fz, enter_own, put_ownE, put_refE, back_oo, back_of, back_ro, back_rf, back_fz, back_rfz, freeze_own, freeze_ref, freeze_fz, backAt_eq, findSV_nil, findSV_nil2, findSV_plc, findSV_fz, findSV_own, apart_nil, apart_fz, apart_own, apart_plc, placed_nil, placed_fz, placed_own, placed_plc, wipeE_nil, wipeE_cons, backE_nil, backE_cons, unlocked_nil, unlocked_cons, List.set_cons_zero, List.set_cons_succ, List.getD_cons_zero, List.getD_cons_succ, List.getElem?_cons_zero, List.getElem?_cons_succ, List.map_cons, List.map_nil, List.cons_append, List.nil_append, List.replicate_succ, List.replicate_zero, List.length_cons, List.length_nil, List.all_cons, List.all_nil, Nat.reduceSub, Nat.reduceAdd, Nat.reduceLeDiff, Nat.reduceEqDiff, Nat.reduceLT, Nat.zero_add, Bool.not_true, Bool.not_false, Bool.and_true, Bool.true_and, Bool.and_self, and_true, true_and, if_true, reduceIte, reduceCtorEq, decide_true, decide_false, Bool.false_eq_true, Bool.or_false, Bool.or_true, Bool.false_or, Bool.true_or, Bool.and_false, Bool.false_and, Nat.le_refl, lineN, Nat.one_ne_zero, Nat.zero_ne_one, addD_i, subD_i, negD_i, cmpI_i, eqD_i, neD_i, eqD_s, neD_s, eqD_b, neD_b, isD_n, isD_b, isNotD_n, isNotD_b, isBool_b, isNone_n, isNone_b, isNone_i, isNone_s, isNone_l, isNone_t, isNone_d, isi_eq, lenD_l, lenD_t, absD_n, maxD_m, minD_m, intD_i, listD_l, listD_t, tupleD_l, tupleD_t, isiB, mulSD_i, divD_i, modD_i, powD_i, ixD_l, ixD_t, ixD_s, slD_l, slD_t, slD_s, lenD_s, addD_s, addD_l, addD_t, strD_i, wp_bind, wp_guard, atI_0, atI_1, atI_2, atI_3, atI_4, ixN_0, ixN_1, ixN_2, Int.reduceNeg, Int.reduceSub, Int.reduceAdd, listD_s, tupleD_s, mulSD_s, small64_eq, decide_eq_true_eq, or_true, true_or, Int.reducePow, Int.reduceToNat, Int.reduceLE, Int.reduceLT, Int.reduceMul, Int.reduceEq, Int.zero_add, Nat.reducePow, Nat.reduceMul, Int.reduceAbs, rangeD_1, rangeD_2, rangeD_3, sortedD_l, maxLD_l, minLD_l, sumLD_l, reprD_1, ixD_ds, ixD_di, inD_ds, inD_di, notInD_ds, notInD_di, dictPD_l, intsOf_nil, intsOf_cons, Option.bind_some, List.max?_cons', List.min?_cons', List.foldl_cons, List.foldl_nil, kDictb_s, kDictb_int, Int.cast_ofNat_Int, upperD_eq, cutS_S, S_cps, S_len', SX.S_len, SX.S_cat, S_mk, repS_S, inD_S, notInD_S, signD_S, ixD_S, cutG_none, cutG_but, cutD_G, lit_0, lit_1, lit_2, lit_3, lit_4])
          exact ⟨.inl (by omega), .inl (by omega), h0, k' _ _ _ (Int.emod_nonneg _ (by omega)) (Int.emod_lt_of_pos _ h0)⟩

-- LITS: lit_0 lit_1 lit_2 lit_3 lit_4
theorem wide_ok {ns : List Int} {p c m : Int} {P : List SV → RV → Prop} (h0 : 0 < m) (h1 : m < 10 ^ 60) (k : ∀ r p' c' : Int, 0 ≤ r → r < m → P [.own (penD ns p' c'), .fz (.int m)] (.fz (.int r))) :
    WC c_law_wide [.own (penD ns p c), .fz (.int m)] P := by
  unfold c_law_wide b_law_wide
  (try simp only [↓wx_0, ↓wx_s, ↓wv_fz, ↓wv_own, ↓wv_plc, ↓kView_fz, ↓kView_own, ↓kView_ref, ↓kView_rfz, ↓wf_fz, ↓wf_own, ↓wf_plc, ↓kFix_fz, ↓kFix_rfz, ↓kFix_own, ↓kFix_ref, ↓we_lit, ↓we_slot, ↓kSlot_fz, ↓kSlot_rfz, ↓kSlot_own, ↓kSlot_ref, ↓wa_nil, ↓wa_cons, ↓kCons1_eq, ↓kCons2_eq, ↓wvs_nil, ↓wvs_cons, ↓kVs1_eq, ↓kVs2_eq, ↓we_op2, ↓kOp2a_eq, ↓kOp2b_eq, ↓kOp2c_eq, ↓kOp2d_eq, ↓we_op1, ↓kOp1a_eq, ↓kOp1b_eq, ↓we_call, ↓kCalla_eq, ↓kCallb_eq, ↓wt_asT, ↓kAsT_eq, ↓wt_and, ↓wt_or, ↓wt_not, ↓kAnd_t, ↓kAnd_f, ↓kOr_t, ↓kOr_f, ↓kNot_eq, ↓we_eT, ↓kET_eq, ↓we_if, ↓kIfE_t, ↓kIfE_f, ↓we_chain, ↓kCh1_eq, ↓kCh2_eq, ↓kCh3_eq, ↓kCh4_eq, ↓kCh5_t, ↓kCh5_f, ↓wfs_nil, ↓wfs_cons, ↓kFs1_eq, ↓kFs2_eq, ↓we_tup, ↓we_lst, ↓kTup_eq, ↓kTupb_eq, ↓kLst_eq, ↓kLstb_eq, ↓we_dict, ↓kDict_eq, ↓kDictb_nil, ↓we_dictT, ↓kDictT_eq, ↓kDictTb_2, ↓wa_pairs0, ↓wa_pairs, ↓wo_no, ↓wo_sm, ↓kSm_eq, ↓we_sl, ↓kSl1_eq, ↓kSl2_eq, ↓kSl3_eq, ↓kSl4_eq, ↓we_m0, ↓we_m1, ↓kM0_eq, ↓kM1_eq, ↓kM1b_eq, ↓kM1c_eq, ↓wg_slot, ↓kGSlot_eq, ↓wgs_nil, ↓wgs_cons, ↓kGs_eq, ↓wg_unp, ↓wi_any, ↓kIAnyA_eq, ↓kIAny_l, ↓kIAny_t, ↓kIAny_s, ↓wi_r1, ↓wi_r2, ↓kR1_eq, ↓kR2_eq, ↓kR2a_eq, ↓we_lc, ↓kLc_eq, ↓kLcE_eq, ↓kLcF_eq, ↓kLcR_eq, ↓kLcT_eq, ↓kLcB_t, ↓kLcB_f, ↓wt_yes, ↓ws_skip, ↓ws_seq, ↓kSeq_nx, ↓kSeq_rt, ↓kSeq_bk, ↓kSeq_ct, ↓ws_expr, ↓kExpr_eq, ↓ws_set, ↓kSet_eq, ↓kSetL_eq, ↓kSetV_fz, ↓kSetV_own, ↓kSetV_plc, ↓kSetP_own, ↓kSetP_ref, ↓kSetP_fz, ↓ws_asg, ↓kAsg_fz, ↓kAsgB_eq, ↓ws_ret, ↓kRet_fz, ↓kRet_own, ↓kRet_plc, ↓kRetP_own, ↓kRetP_ref, ↓ws_retN, ↓ws_if, ↓kIf_t, ↓kIf_f, ↓ws_brk, ↓ws_cnt, ↓ws_for, ↓kFor_eq, ↓kLoop_nx, ↓kLoop_ct, ↓kLoop_bk, ↓kLoop_rt, ↓kBody_eq, ↓wl_eq, ↓kOwnL_own, ↓kOwnL_ref, ↓ws_setIx, ↓kSI1_eq, ↓kSI2_eq, ↓kSI3_eq, ↓kSI4_eq, ↓kSI5_eq, ↓we_app, ↓kAp0_eq, ↓kAp1_eq, ↓kAp2_eq, ↓kAp3_eq, ↓we_user, ↓kUsr_eq, ↓kUsr1_eq, ↓kUsr2_eq, ↓kUsr3_fz, ↓kUsr3_own, ↓warg_nil, ↓warg_fz, ↓warg_own, ↓warg_plc, ↓kArg1_eq, ↓kArg2_eq, ↓kArgP_own, ↓kArgP_ref, ↓kArgP_fz, ↓kArgP_rfz, ↓wc_run, ↓kRun_rt, ↓kRun_nx, ↓kRunR_fz, ↓kRunR_own, ↓wex_nil, ↓wex_fz, ↓wex_ref, ↓wex_rfz, ↓kEx_eq, ↓we_rev, ↓kRev0_eq, ↓kRev_l, ↓wk_eq, ↓kOwnK_own, ↓kOwnK_ref, ↓ws_setKey, ↓kSK1_eq, ↓kSK2_eq, ↓kSK3_eq, ↓kSK4_s, ↓kSK4_i, ↓kSK5_eq, ↓kSK6_eq, ↓we_get1, ↓kG1_eq, ↓kG2_d, ↓kG3_eq, ↓kG4_d, ↓kG5_s, ↓kG5_i, ↓we_get2, ↓kH1_eq, ↓kH2_d, ↓kH3_eq, ↓kH3b_eq, ↓kH4_d, ↓kH5_s, ↓kH5_i, ↓kWh_t, ↓kWh_f, ↓ws_while, ↓we_ext, ↓kEx0_eq, ↓kEx1_eq, ↓kEx3_eq, ↓kJ_nx, ↓kJ_rt, ↓kJ_bk, ↓kJ_ct, ↓kIs_eq, ↓kIsE_eq, wp_some, backSVs_nil, backSVs_cons, lock_unb, lock_fz, lock_own, plain_fz, plain_own, enter_fz, enter_own, put_ownE, put_refE, back_oo, back_of, back_ro, back_rf, back_fz, back_rfz, freeze_own, freeze_ref, freeze_fz, backAt_eq, findSV_nil, findSV_nil2, findSV_plc, findSV_fz, findSV_own, apart_nil, apart_fz, apart_own, apart_plc, placed_nil, placed_fz, placed_own, placed_plc, wipeE_nil, wipeE_cons, backE_nil, backE_cons, unlocked_nil, unlocked_cons, List.set_cons_zero, List.set_cons_succ, List.getD_cons_zero, List.getD_cons_succ, List.getElem?_cons_zero, List.getElem?_cons_succ, List.map_cons, List.map_nil, List.cons_append, List.nil_append, List.replicate_succ, List.replicate_zero, List.length_cons, List.length_nil, List.all_cons, List.all_nil, Nat.reduceSub, Nat.reduceAdd, Nat.reduceLeDiff, Nat.reduceEqDiff, Nat.reduceLT, Nat.zero_add, Bool.not_true, Bool.not_false, Bool.and_true, Bool.true_and, Bool.and_self, and_true, true_and, if_true, reduceIte, reduceCtorEq, decide_true, decide_false, Bool.false_eq_true, Bool.or_false, Bool.or_true, Bool.false_or, Bool.true_or, Bool.and_false, Bool.false_and, Nat.le_refl, lineN, Nat.one_ne_zero, Nat.zero_ne_one, addD_i, subD_i, negD_i, cmpI_i, eqD_i, neD_i, eqD_s, neD_s, eqD_b, neD_b, isD_n, isD_b, isNotD_n, isNotD_b, isBool_b, isNone_n, isNone_b, isNone_i, isNone_s, isNone_l, isNone_t, isNone_d, isi_eq, lenD_l, lenD_t, absD_n, maxD_m, minD_m, intD_i, listD_l, listD_t, tupleD_l, tupleD_t, isiB, mulSD_i, divD_i, modD_i, powD_i, ixD_l, ixD_t, ixD_s, slD_l, slD_t, slD_s, lenD_s, addD_s, addD_l, addD_t, strD_i, wp_bind, wp_guard, atI_0, atI_1, atI_2, atI_3, atI_4, ixN_0, ixN_1, ixN_2, Int.reduceNeg, Int.reduceSub, Int.reduceAdd, listD_s, tupleD_s, mulSD_s, small64_eq, decide_eq_true_eq, or_true, true_or, Int.reducePow, Int.reduceToNat, Int.reduceLE, Int.reduceLT, Int.reduceMul, Int.reduceEq, Int.zero_add, Nat.reducePow, Nat.reduceMul, Int.reduceAbs, rangeD_1, rangeD_2, rangeD_3, sortedD_l, maxLD_l, minLD_l, sumLD_l, reprD_1, ixD_ds, ixD_di, inD_ds, inD_di, notInD_ds, notInD_di, dictPD_l, intsOf_nil, intsOf_cons, Option.bind_some, List.max?_cons', List.min?_cons', List.foldl_cons, List.foldl_nil, kDictb_s, kDictb_int, Int.cast_ofNat_Int, upperD_eq, cutS_S, S_cps, S_len', SX.S_len, SX.S_cat, S_mk, repS_S, inD_S, notInD_S, signD_S, ixD_S, cutG_none, cutG_but, cutD_G, lit_0, lit_1, lit_2, lit_3, lit_4])
  refine kIf_i (fun hc => ?_) fun hc => ?_
  · have hm : m < 10000000 := of_decide_eq_true hc
    (try simp only [↓wx_0, ↓wx_s, ↓wv_fz, ↓wv_own, ↓wv_plc, ↓kView_fz, ↓kView_own, ↓kView_ref, ↓kView_rfz, ↓wf_fz, ↓wf_own, ↓wf_plc, ↓kFix_fz, ↓kFix_rfz, ↓kFix_own, ↓kFix_ref, ↓we_lit, ↓we_slot, ↓kSlot_fz, ↓kSlot_rfz, ↓kSlot_own, ↓kSlot_ref, ↓wa_nil, ↓wa_cons, ↓kCons1_eq, ↓kCons2_eq, ↓wvs_nil, ↓wvs_cons, ↓kVs1_eq, ↓kVs2_eq, ↓we_op2, ↓kOp2a_eq, ↓kOp2b_eq, ↓kOp2c_eq, ↓kOp2d_eq, ↓we_op1, ↓kOp1a_eq, ↓kOp1b_eq, ↓we_call, ↓kCalla_eq, ↓kCallb_eq, ↓wt_asT, ↓kAsT_eq, ↓wt_and, ↓wt_or, ↓wt_not, ↓kAnd_t, ↓kAnd_f, ↓kOr_t, ↓kOr_f, ↓kNot_eq, ↓we_eT, ↓kET_eq, ↓we_if, ↓kIfE_t, ↓kIfE_f, ↓we_chain, ↓kCh1_eq, ↓kCh2_eq, ↓kCh3_eq, ↓kCh4_eq, ↓kCh5_t, ↓kCh5_f, ↓wfs_nil, ↓wfs_cons, ↓kFs1_eq, ↓kFs2_eq, ↓we_tup, ↓we_lst, ↓kTup_eq, ↓kTupb_eq, ↓kLst_eq, ↓kLstb_eq, ↓we_dict, ↓kDict_eq, ↓kDictb_nil, ↓we_dictT, ↓kDictT_eq, ↓kDictTb_2, ↓wa_pairs0, ↓wa_pairs, ↓wo_no, ↓wo_sm, ↓kSm_eq, ↓we_sl, ↓kSl1_eq, ↓kSl2_eq, ↓kSl3_eq, ↓kSl4_eq, ↓we_m0, ↓we_m1, ↓kM0_eq, ↓kM1_eq, ↓kM1b_eq, ↓kM1c_eq, ↓wg_slot, ↓kGSlot_eq, ↓wgs_nil, ↓wgs_cons, ↓kGs_eq, ↓wg_unp, ↓wi_any, ↓kIAnyA_eq, ↓kIAny_l, ↓kIAny_t, ↓kIAny_s, ↓wi_r1, ↓wi_r2, ↓kR1_eq, ↓kR2_eq, ↓kR2a_eq, ↓we_lc, ↓kLc_eq, ↓kLcE_eq, ↓kLcF_eq, ↓kLcR_eq, ↓kLcT_eq, ↓kLcB_t, ↓kLcB_f, ↓wt_yes, ↓ws_skip, ↓ws_seq, ↓kSeq_nx, ↓kSeq_rt, ↓kSeq_bk, ↓kSeq_ct, ↓ws_expr, ↓kExpr_eq, ↓ws_set, ↓kSet_eq, ↓kSetL_eq, ↓kSetV_fz, ↓kSetV_own, ↓kSetV_plc, ↓kSetP_own, ↓kSetP_ref, ↓kSetP_fz, ↓ws_asg, ↓kAsg_fz, ↓kAsgB_eq, ↓ws_ret, ↓kRet_fz, ↓kRet_own, ↓kRet_plc, ↓kRetP_own, ↓kRetP_ref, ↓ws_retN, ↓ws_if, ↓kIf_t, ↓kIf_f, ↓ws_brk, ↓ws_cnt, ↓ws_for, ↓kFor_eq, ↓kLoop_nx, ↓kLoop_ct, ↓kLoop_bk, ↓kLoop_rt, ↓kBody_eq, ↓wl_eq, ↓kOwnL_own, ↓kOwnL_ref, ↓ws_setIx, ↓kSI1_eq, ↓kSI2_eq, ↓kSI3_eq, ↓kSI4_eq, ↓kSI5_eq, ↓we_app, ↓kAp0_eq, ↓kAp1_eq, ↓kAp2_eq, ↓kAp3_eq, ↓we_user, ↓kUsr_eq, ↓kUsr1_eq, ↓kUsr2_eq, ↓kUsr3_fz, ↓kUsr3_own, ↓warg_nil, ↓warg_fz, ↓warg_own, ↓warg_plc, ↓kArg1_eq, ↓kArg2_eq, ↓kArgP_own, ↓kArgP_ref, ↓kArgP_fz, ↓kArgP_rfz, ↓wc_run, ↓kRun_rt, ↓kRun_nx, ↓kRunR_fz, ↓kRunR_own, ↓wex_nil, ↓wex_fz, ↓wex_ref, ↓wex_rfz, ↓kEx_eq, ↓we_rev, ↓kRev0_eq, ↓kRev_l, ↓wk_eq, ↓kOwnK_own, ↓kOwnK_ref, ↓ws_setKey, ↓kSK1_eq, ↓kSK2_eq, ↓kSK3_eq, ↓kSK4_s, ↓kSK4_i, ↓kSK5_eq, ↓kSK6_eq, ↓we_get1, ↓kG1_eq, ↓kG2_d, ↓kG3_eq, ↓kG4_d, ↓kG5_s, ↓kG5_i, ↓we_get2, ↓kH1_eq, ↓kH2_d, ↓kH3_eq, ↓kH3b_eq, ↓kH4_d, ↓kH5_s, ↓kH5_i, ↓kWh_t, ↓kWh_f, ↓ws_while, ↓we_ext, ↓kEx0_eq, ↓kEx1_eq, ↓kEx3_eq, ↓kJ_nx, ↓kJ_rt, ↓kJ_bk, ↓kJ_ct, ↓kIs_eq, ↓kIsE_eq, wp_some, backSVs_nil, backSVs_cons, lock_unb, lock_fz, lock_own, plain_fz, plain_own, enter_fz, enter_own, put_ownE, put_refE, back_oo, back_of, back_ro, back_rf, back_fz, back_rfz, freeze_own, freeze_ref, freeze_fz, backAt_eq, findSV_nil, findSV_nil2, findSV_plc, findSV_fz, findSV_own, apart_nil, apart_fz, apart_own, apart_plc, placed_nil, placed_fz, placed_own, placed_plc, wipeE_nil, wipeE_cons, backE_nil, backE_cons, unlocked_nil, unlocked_cons, List.set_cons_zero, List.set_cons_succ, List.getD_cons_zero, List.getD_cons_succ, List.getElem?_cons_zero, List.getElem?_cons_succ, List.map_cons, List.map_nil, List.cons_append, List.nil_append, List.replicate_succ, List.replicate_zero, List.length_cons, List.length_nil, List.all_cons, List.all_nil, Nat.reduceSub, Nat.reduceAdd, Nat.reduceLeDiff, Nat.reduceEqDiff, Nat.reduceLT, Nat.zero_add, Bool.not_true, Bool.not_false, Bool.and_true, Bool.true_and, Bool.and_self, and_true, true_and, if_true, reduceIte, reduceCtorEq, decide_true, decide_false, Bool.false_eq_true, Bool.or_false, Bool.or_true, Bool.false_or, Bool.true_or, Bool.and_false, Bool.false_and, Nat.le_refl, lineN, Nat.one_ne_zero, Nat.zero_ne_one, addD_i, subD_i, negD_i, cmpI_i, eqD_i, neD_i, eqD_s, neD_s, eqD_b, neD_b, isD_n, isD_b, isNotD_n, isNotD_b, isBool_b, isNone_n, isNone_b, isNone_i, isNone_s, isNone_l, isNone_t, isNone_d, isi_eq, lenD_l, lenD_t, absD_n, maxD_m, minD_m, intD_i, listD_l, listD_t, tupleD_l, tupleD_t, isiB, mulSD_i, divD_i, modD_i, powD_i, ixD_l, ixD_t, ixD_s, slD_l, slD_t, slD_s, lenD_s, addD_s, addD_l, addD_t, strD_i, wp_bind, wp_guard, atI_0, atI_1, atI_2, atI_3, atI_4, ixN_0, ixN_1, ixN_2, Int.reduceNeg, Int.reduceSub, Int.reduceAdd, listD_s, tupleD_s, mulSD_s, small64_eq, decide_eq_true_eq, or_true, true_or, Int.reducePow, Int.reduceToNat, Int.reduceLE, Int.reduceLT, Int.reduceMul, Int.reduceEq, Int.zero_add, Nat.reducePow, Nat.reduceMul, Int.reduceAbs, rangeD_1, rangeD_2, rangeD_3, sortedD_l, maxLD_l, minLD_l, sumLD_l, reprD_1, ixD_ds, ixD_di, inD_ds, inD_di, notInD_ds, notInD_di, dictPD_l, intsOf_nil, intsOf_cons, Option.bind_some, List.max?_cons', List.min?_cons', List.foldl_cons, List.foldl_nil, kDictb_s, kDictb_int, Int.cast_ofNat_Int, upperD_eq, cutS_S, S_cps, S_len', SX.S_len, SX.S_cat, S_mk, repS_S, inD_S, notInD_S, signD_S, ixD_S, cutG_none, cutG_but, cutD_G, lit_0, lit_1, lit_2, lit_3, lit_4])
    refine take_ok h0 (by omega) fun r p' c' r0 r1 => ?_
    (try simp only [↓wx_0, ↓wx_s, ↓wv_fz, ↓wv_own, ↓wv_plc, ↓kView_fz, ↓kView_own, ↓kView_ref, ↓kView_rfz, ↓wf_fz, ↓wf_own, ↓wf_plc, ↓kFix_fz, ↓kFix_rfz, ↓kFix_own, ↓kFix_ref, ↓we_lit, ↓we_slot, ↓kSlot_fz, ↓kSlot_rfz, ↓kSlot_own, ↓kSlot_ref, ↓wa_nil, ↓wa_cons, ↓kCons1_eq, ↓kCons2_eq, ↓wvs_nil, ↓wvs_cons, ↓kVs1_eq, ↓kVs2_eq, ↓we_op2, ↓kOp2a_eq, ↓kOp2b_eq, ↓kOp2c_eq, ↓kOp2d_eq, ↓we_op1, ↓kOp1a_eq, ↓kOp1b_eq, ↓we_call, ↓kCalla_eq, ↓kCallb_eq, ↓wt_asT, ↓kAsT_eq, ↓wt_and, ↓wt_or, ↓wt_not, ↓kAnd_t, ↓kAnd_f, ↓kOr_t, ↓kOr_f, ↓kNot_eq, ↓we_eT, ↓kET_eq, ↓we_if, ↓kIfE_t, ↓kIfE_f, ↓we_chain, ↓kCh1_eq, ↓kCh2_eq, ↓kCh3_eq, ↓kCh4_eq, ↓kCh5_t, ↓kCh5_f, ↓wfs_nil, ↓wfs_cons, ↓kFs1_eq, ↓kFs2_eq, ↓we_tup, ↓we_lst, ↓kTup_eq, ↓kTupb_eq, ↓kLst_eq, ↓kLstb_eq, ↓we_dict, ↓kDict_eq, ↓kDictb_nil, ↓we_dictT, ↓kDictT_eq, ↓kDictTb_2, ↓wa_pairs0, ↓wa_pairs, ↓wo_no, ↓wo_sm, ↓kSm_eq, ↓we_sl, ↓kSl1_eq, ↓kSl2_eq, ↓kSl3_eq, ↓kSl4_eq, ↓we_m0, ↓we_m1, ↓kM0_eq, ↓kM1_eq, ↓kM1b_eq, ↓kM1c_eq, ↓wg_slot, ↓kGSlot_eq, ↓wgs_nil, ↓wgs_cons, ↓kGs_eq, ↓wg_unp, ↓wi_any, ↓kIAnyA_eq, ↓kIAny_l, ↓kIAny_t, ↓kIAny_s, ↓wi_r1, ↓wi_r2, ↓kR1_eq, ↓kR2_eq, ↓kR2a_eq, ↓we_lc, ↓kLc_eq, ↓kLcE_eq, ↓kLcF_eq, ↓kLcR_eq, ↓kLcT_eq, ↓kLcB_t, ↓kLcB_f, ↓wt_yes, ↓ws_skip, ↓ws_seq, ↓kSeq_nx, ↓kSeq_rt, ↓kSeq_bk, ↓kSeq_ct, ↓ws_expr, ↓kExpr_eq, ↓ws_set, ↓kSet_eq, ↓kSetL_eq, ↓kSetV_fz, ↓kSetV_own, ↓kSetV_plc, ↓kSetP_own, ↓kSetP_ref, ↓kSetP_fz, ↓ws_asg, ↓kAsg_fz, ↓kAsgB_eq, ↓ws_ret, ↓kRet_fz, ↓kRet_own, ↓kRet_plc, ↓kRetP_own, ↓kRetP_ref, ↓ws_retN, ↓ws_if, ↓kIf_t, ↓kIf_f, ↓ws_brk, ↓ws_cnt, ↓ws_for, ↓kFor_eq, ↓kLoop_nx, ↓kLoop_ct, ↓kLoop_bk, ↓kLoop_rt, ↓kBody_eq, ↓wl_eq, ↓kOwnL_own, ↓kOwnL_ref, ↓ws_setIx, ↓kSI1_eq, ↓kSI2_eq, ↓kSI3_eq, ↓kSI4_eq, ↓kSI5_eq, ↓we_app, ↓kAp0_eq, ↓kAp1_eq, ↓kAp2_eq, ↓kAp3_eq, ↓we_user, ↓kUsr_eq, ↓kUsr1_eq, ↓kUsr2_eq, ↓kUsr3_fz, ↓kUsr3_own, ↓warg_nil, ↓warg_fz, ↓warg_own, ↓warg_plc, ↓kArg1_eq, ↓kArg2_eq, ↓kArgP_own, ↓kArgP_ref, ↓kArgP_fz, ↓kArgP_rfz, ↓wc_run, ↓kRun_rt, ↓kRun_nx, ↓kRunR_fz, ↓kRunR_own, ↓wex_nil, ↓wex_fz, ↓wex_ref, ↓wex_rfz, ↓kEx_eq, ↓we_rev, ↓kRev0_eq, ↓kRev_l, ↓wk_eq, ↓kOwnK_own, ↓kOwnK_ref, ↓ws_setKey, ↓kSK1_eq, ↓kSK2_eq, ↓kSK3_eq, ↓kSK4_s, ↓kSK4_i, ↓kSK5_eq, ↓kSK6_eq, ↓we_get1, ↓kG1_eq, ↓kG2_d, ↓kG3_eq, ↓kG4_d, ↓kG5_s, ↓kG5_i, ↓we_get2, ↓kH1_eq, ↓kH2_d, ↓kH3_eq, ↓kH3b_eq, ↓kH4_d, ↓kH5_s, ↓kH5_i, ↓kWh_t, ↓kWh_f, ↓ws_while, ↓we_ext, ↓kEx0_eq, ↓kEx1_eq, ↓kEx3_eq, ↓kJ_nx, ↓kJ_rt, ↓kJ_bk, ↓kJ_ct, ↓kIs_eq, ↓kIsE_eq, wp_some, backSVs_nil, backSVs_cons, lock_unb, lock_fz, lock_own, plain_fz, plain_own, enter_fz, enter_own, put_ownE, put_refE, back_oo, back_of, back_ro, back_rf, back_fz, back_rfz, freeze_own, freeze_ref, freeze_fz, backAt_eq, findSV_nil, findSV_nil2, findSV_plc, findSV_fz, findSV_own, apart_nil, apart_fz, apart_own, apart_plc, placed_nil, placed_fz, placed_own, placed_plc, wipeE_nil, wipeE_cons, backE_nil, backE_cons, unlocked_nil, unlocked_cons, List.set_cons_zero, List.set_cons_succ, List.getD_cons_zero, List.getD_cons_succ, List.getElem?_cons_zero, List.getElem?_cons_succ, List.map_cons, List.map_nil, List.cons_append, List.nil_append, List.replicate_succ, List.replicate_zero, List.length_cons, List.length_nil, List.all_cons, List.all_nil, Nat.reduceSub, Nat.reduceAdd, Nat.reduceLeDiff, Nat.reduceEqDiff, Nat.reduceLT, Nat.zero_add, Bool.not_true, Bool.not_false, Bool.and_true, Bool.true_and, Bool.and_self, and_true, true_and, if_true, reduceIte, reduceCtorEq, decide_true, decide_false, Bool.false_eq_true, Bool.or_false, Bool.or_true, Bool.false_or, Bool.true_or, Bool.and_false, Bool.false_and, Nat.le_refl, lineN, Nat.one_ne_zero, Nat.zero_ne_one, addD_i, subD_i, negD_i, cmpI_i, eqD_i, neD_i, eqD_s, neD_s, eqD_b, neD_b, isD_n, isD_b, isNotD_n, isNotD_b, isBool_b, isNone_n, isNone_b, isNone_i, isNone_s, isNone_l, isNone_t, isNone_d, isi_eq, lenD_l, lenD_t, absD_n, maxD_m, minD_m, intD_i, listD_l, listD_t, tupleD_l, tupleD_t, isiB, mulSD_i, divD_i, modD_i, powD_i, ixD_l, ixD_t, ixD_s, slD_l, slD_t, slD_s, lenD_s, addD_s, addD_l, addD_t, strD_i, wp_bind, wp_guard, atI_0, atI_1, atI_2, atI_3, atI_4, ixN_0, ixN_1, ixN_2, Int.reduceNeg, Int.reduceSub, Int.reduceAdd, listD_s, tupleD_s, mulSD_s, small64_eq, decide_eq_true_eq, or_true, true_or, Int.reducePow, Int.reduceToNat, Int.reduceLE, Int.reduceLT, Int.reduceMul, Int.reduceEq, Int.zero_add, Nat.reducePow, Nat.reduceMul, Int.reduceAbs, rangeD_1, rangeD_2, rangeD_3, sortedD_l, maxLD_l, minLD_l, sumLD_l, reprD_1, ixD_ds, ixD_di, inD_ds, inD_di, notInD_ds, notInD_di, dictPD_l, intsOf_nil, intsOf_cons, Option.bind_some, List.max?_cons', List.min?_cons', List.foldl_cons, List.foldl_nil, kDictb_s, kDictb_int, Int.cast_ofNat_Int, upperD_eq, cutS_S, S_cps, S_len', SX.S_len, SX.S_cat, S_mk, repS_S, inD_S, notInD_S, signD_S, ixD_S, cutG_none, cutG_but, cutD_G, lit_0, lit_1, lit_2, lit_3, lit_4])
    exact k r p' c' r0 r1
  · have hL := num_len (Int.le_of_lt h0) (k := 60) (by decide) h1
    (try simp only [↓wx_0, ↓wx_s, ↓wv_fz, ↓wv_own, ↓wv_plc, ↓kView_fz, ↓kView_own, ↓kView_ref, ↓kView_rfz, ↓wf_fz, ↓wf_own, ↓wf_plc, ↓kFix_fz, ↓kFix_rfz, ↓kFix_own, ↓kFix_ref, ↓we_lit, ↓we_slot, ↓kSlot_fz, ↓kSlot_rfz, ↓kSlot_own, ↓kSlot_ref, ↓wa_nil, ↓wa_cons, ↓kCons1_eq, ↓kCons2_eq, ↓wvs_nil, ↓wvs_cons, ↓kVs1_eq, ↓kVs2_eq, ↓we_op2, ↓kOp2a_eq, ↓kOp2b_eq, ↓kOp2c_eq, ↓kOp2d_eq, ↓we_op1, ↓kOp1a_eq, ↓kOp1b_eq, ↓we_call, ↓kCalla_eq, ↓kCallb_eq, ↓wt_asT, ↓kAsT_eq, ↓wt_and, ↓wt_or, ↓wt_not, ↓kAnd_t, ↓kAnd_f, ↓kOr_t, ↓kOr_f, ↓kNot_eq, ↓we_eT, ↓kET_eq, ↓we_if, ↓kIfE_t, ↓kIfE_f, ↓we_chain, ↓kCh1_eq, ↓kCh2_eq, ↓kCh3_eq, ↓kCh4_eq, ↓kCh5_t, ↓kCh5_f, ↓wfs_nil, ↓wfs_cons, ↓kFs1_eq, ↓kFs2_eq, ↓we_tup, ↓we_lst, ↓kTup_eq, ↓kTupb_eq, ↓kLst_eq, ↓kLstb_eq, ↓we_dict, ↓kDict_eq, ↓kDictb_nil, ↓we_dictT, ↓kDictT_eq, ↓kDictTb_2, ↓wa_pairs0, ↓wa_pairs, ↓wo_no, ↓wo_sm, ↓kSm_eq, ↓we_sl, ↓kSl1_eq, ↓kSl2_eq, ↓kSl3_eq, ↓kSl4_eq, ↓we_m0, ↓we_m1, ↓kM0_eq, ↓kM1_eq, ↓kM1b_eq, ↓kM1c_eq, ↓wg_slot, ↓kGSlot_eq, ↓wgs_nil, ↓wgs_cons, ↓kGs_eq, ↓wg_unp, ↓wi_any, ↓kIAnyA_eq, ↓kIAny_l, ↓kIAny_t, ↓kIAny_s, ↓wi_r1, ↓wi_r2, ↓kR1_eq, ↓kR2_eq, ↓kR2a_eq, ↓we_lc, ↓kLc_eq, ↓kLcE_eq, ↓kLcF_eq, ↓kLcR_eq, ↓kLcT_eq, ↓kLcB_t, ↓kLcB_f, ↓wt_yes, ↓ws_skip, ↓ws_seq, ↓kSeq_nx, ↓kSeq_rt, ↓kSeq_bk, ↓kSeq_ct, ↓ws_expr, ↓kExpr_eq, ↓ws_set, ↓kSet_eq, ↓kSetL_eq, ↓kSetV_fz, ↓kSetV_own, ↓kSetV_plc, ↓kSetP_own, ↓kSetP_ref, ↓kSetP_fz, ↓ws_asg, ↓kAsg_fz, ↓kAsgB_eq, ↓ws_ret, ↓kRet_fz, ↓kRet_own, ↓kRet_plc, ↓kRetP_own, ↓kRetP_ref, ↓ws_retN, ↓ws_if, ↓kIf_t, ↓kIf_f, ↓ws_brk, ↓ws_cnt, ↓ws_for, ↓kFor_eq, ↓kLoop_nx, ↓kLoop_ct, ↓kLoop_bk, ↓kLoop_rt, ↓kBody_eq, ↓wl_eq, ↓kOwnL_own, ↓kOwnL_ref, ↓ws_setIx, ↓kSI1_eq, ↓kSI2_eq, ↓kSI3_eq, ↓kSI4_eq, ↓kSI5_eq, ↓we_app, ↓kAp0_eq, ↓kAp1_eq, ↓kAp2_eq, ↓kAp3_eq, ↓we_user, ↓kUsr_eq, ↓kUsr1_eq, ↓kUsr2_eq, ↓kUsr3_fz, ↓kUsr3_own, ↓warg_nil, ↓warg_fz, ↓warg_own, ↓warg_plc, ↓kArg1_eq, ↓kArg2_eq, ↓kArgP_own, ↓kArgP_ref, ↓kArgP_fz, ↓kArgP_rfz, ↓wc_run, ↓kRun_rt, ↓kRun_nx, ↓kRunR_fz, ↓kRunR_own, ↓wex_nil, ↓wex_fz, ↓wex_ref, ↓wex_rfz, ↓kEx_eq, ↓we_rev, ↓kRev0_eq, ↓kRev_l, ↓wk_eq, ↓kOwnK_own, ↓kOwnK_ref, ↓ws_setKey, ↓kSK1_eq, ↓kSK2_eq, ↓kSK3_eq, ↓kSK4_s, ↓kSK4_i, ↓kSK5_eq, ↓kSK6_eq, ↓we_get1, ↓kG1_eq, ↓kG2_d, ↓kG3_eq, ↓kG4_d, ↓kG5_s, ↓kG5_i, ↓we_get2, ↓kH1_eq, ↓kH2_d, ↓kH3_eq, ↓kH3b_eq, ↓kH4_d, ↓kH5_s, ↓kH5_i, ↓kWh_t, ↓kWh_f, ↓ws_while, ↓we_ext, ↓kEx0_eq, ↓kEx1_eq, ↓kEx3_eq, ↓kJ_nx, ↓kJ_rt, ↓kJ_bk, ↓kJ_ct, ↓kIs_eq, ↓kIsE_eq, wp_some, backSVs_nil, backSVs_cons, lock_unb, lock_fz, lock_own, plain_fz, plain_own, enter_fz, enter_own, put_ownE, put_refE, back_oo, back_of, back_ro, back_rf, back_fz, back_rfz, freeze_own, freeze_ref, freeze_fz, backAt_eq, findSV_nil, findSV_nil2, findSV_plc, findSV_fz, findSV_own, apart_nil, apart_fz, apart_own, apart_plc, placed_nil, placed_fz, placed_own, placed_plc, wipeE_nil, wipeE_cons, backE_nil, backE_cons, unlocked_nil, unlocked_cons, List.set_cons_zero, List.set_cons_succ, List.getD_cons_zero, List.getD_cons_succ, List.getElem?_cons_zero, List.getElem?_cons_succ, List.map_cons, List.map_nil, List.cons_append, List.nil_append, List.replicate_succ, List.replicate_zero, List.length_cons, List.length_nil, List.all_cons, List.all_nil, Nat.reduceSub, Nat.reduceAdd, Nat.reduceLeDiff, Nat.reduceEqDiff, Nat.reduceLT, Nat.zero_add, Bool.not_true, Bool.not_false, Bool.and_true, Bool.true_and, Bool.and_self, and_true, true_and, if_true, reduceIte, reduceCtorEq, decide_true, decide_false, Bool.false_eq_true, Bool.or_false, Bool.or_true, Bool.false_or, Bool.true_or, Bool.and_false, Bool.false_and, Nat.le_refl, lineN, Nat.one_ne_zero, Nat.zero_ne_one, addD_i, subD_i, negD_i, cmpI_i, eqD_i, neD_i, eqD_s, neD_s, eqD_b, neD_b, isD_n, isD_b, isNotD_n, isNotD_b, isBool_b, isNone_n, isNone_b, isNone_i, isNone_s, isNone_l, isNone_t, isNone_d, isi_eq, lenD_l, lenD_t, absD_n, maxD_m, minD_m, intD_i, listD_l, listD_t, tupleD_l, tupleD_t, isiB, mulSD_i, divD_i, modD_i, powD_i, ixD_l, ixD_t, ixD_s, slD_l, slD_t, slD_s, lenD_s, addD_s, addD_l, addD_t, strD_i, wp_bind, wp_guard, atI_0, atI_1, atI_2, atI_3, atI_4, ixN_0, ixN_1, ixN_2, Int.reduceNeg, Int.reduceSub, Int.reduceAdd, listD_s, tupleD_s, mulSD_s, small64_eq, decide_eq_true_eq, or_true, true_or, Int.reducePow, Int.reduceToNat, Int.reduceLE, Int.reduceLT, Int.reduceMul, Int.reduceEq, Int.zero_add, Nat.reducePow, Nat.reduceMul, Int.reduceAbs, rangeD_1, rangeD_2, rangeD_3, sortedD_l, maxLD_l, minLD_l, sumLD_l, reprD_1, ixD_ds, ixD_di, inD_ds, inD_di, notInD_ds, notInD_di, dictPD_l, intsOf_nil, intsOf_cons, Option.bind_some, List.max?_cons', List.min?_cons', List.foldl_cons, List.foldl_nil, kDictb_s, kDictb_int, Int.cast_ofNat_Int, upperD_eq, cutS_S, S_cps, S_len', SX.S_len, SX.S_cat, S_mk, repS_S, inD_S, notInD_S, signD_S, ixD_S, cutG_none, cutG_but, cutD_G, lit_0, lit_1, lit_2, lit_3, lit_4])
    refine ⟨log_lt (Int.le_of_lt h0) (Int.lt_trans h1 (by decide)), Nat.le_trans hL (by decide), by omega, ?_⟩
    refine wfor_all (fun e => ∃ (p' c' f : Int) (s : SV), s.lock = false ∧ e = [.ref (penD ns p' c'), .fz (.int m), .fz (.int f), s]) ⟨p, c, 0, .unb, rfl, rfl⟩ (fun d hd e he => ?_) fun e he => ?_
    · obtain ⟨p', c', f, s, hs, rfl⟩ := he
      (try simp only [↓wx_0, ↓wx_s, ↓wv_fz, ↓wv_own, ↓wv_plc, ↓kView_fz, ↓kView_own, ↓kView_ref, ↓kView_rfz, ↓wf_fz, ↓wf_own, ↓wf_plc, ↓kFix_fz, ↓kFix_rfz, ↓kFix_own, ↓kFix_ref, ↓we_lit, ↓we_slot, ↓kSlot_fz, ↓kSlot_rfz, ↓kSlot_own, ↓kSlot_ref, ↓wa_nil, ↓wa_cons, ↓kCons1_eq, ↓kCons2_eq, ↓wvs_nil, ↓wvs_cons, ↓kVs1_eq, ↓kVs2_eq, ↓we_op2, ↓kOp2a_eq, ↓kOp2b_eq, ↓kOp2c_eq, ↓kOp2d_eq, ↓we_op1, ↓kOp1a_eq, ↓kOp1b_eq, ↓we_call, ↓kCalla_eq, ↓kCallb_eq, ↓wt_asT, ↓kAsT_eq, ↓wt_and, ↓wt_or, ↓wt_not, ↓kAnd_t, ↓kAnd_f, ↓kOr_t, ↓kOr_f, ↓kNot_eq, ↓we_eT, ↓kET_eq, ↓we_if, ↓kIfE_t, ↓kIfE_f, ↓we_chain, ↓kCh1_eq, ↓kCh2_eq, ↓kCh3_eq, ↓kCh4_eq, ↓kCh5_t, ↓kCh5_f, ↓wfs_nil, ↓wfs_cons, ↓kFs1_eq, ↓kFs2_eq, ↓we_tup, ↓we_lst, ↓kTup_eq, ↓kTupb_eq, ↓kLst_eq, ↓kLstb_eq, ↓we_dict, ↓kDict_eq, ↓kDictb_nil, ↓we_dictT, ↓kDictT_eq, ↓kDictTb_2, ↓wa_pairs0, ↓wa_pairs, ↓wo_no, ↓wo_sm, ↓kSm_eq, ↓we_sl, ↓kSl1_eq, ↓kSl2_eq, ↓kSl3_eq, ↓kSl4_eq, ↓we_m0, ↓we_m1, ↓kM0_eq, ↓kM1_eq, ↓kM1b_eq, ↓kM1c_eq, ↓wg_slot, ↓kGSlot_eq, ↓wgs_nil, ↓wgs_cons, ↓kGs_eq, ↓wg_unp, ↓wi_any, ↓kIAnyA_eq, ↓kIAny_l, ↓kIAny_t, ↓kIAny_s, ↓wi_r1, ↓wi_r2, ↓kR1_eq, ↓kR2_eq, ↓kR2a_eq, ↓we_lc, ↓kLc_eq, ↓kLcE_eq, ↓kLcF_eq, ↓kLcR_eq, ↓kLcT_eq, ↓kLcB_t, ↓kLcB_f, ↓wt_yes, ↓ws_skip, ↓ws_seq, ↓kSeq_nx, ↓kSeq_rt, ↓kSeq_bk, ↓kSeq_ct, ↓ws_expr, ↓kExpr_eq, ↓ws_set, ↓kSet_eq, ↓kSetL_eq, ↓kSetV_fz, ↓kSetV_own, ↓kSetV_plc, ↓kSetP_own, ↓kSetP_ref, ↓kSetP_fz, ↓ws_asg, ↓kAsg_fz, ↓kAsgB_eq, ↓ws_ret, ↓kRet_fz, ↓kRet_own, ↓kRet_plc, ↓kRetP_own, ↓kRetP_ref, ↓ws_retN, ↓ws_if, ↓kIf_t, ↓kIf_f, ↓ws_brk, ↓ws_cnt, ↓ws_for, ↓kFor_eq, ↓kLoop_nx, ↓kLoop_ct, ↓kLoop_bk, ↓kLoop_rt, ↓kBody_eq, ↓wl_eq, ↓kOwnL_own, ↓kOwnL_ref, ↓ws_setIx, ↓kSI1_eq, ↓kSI2_eq, ↓kSI3_eq, ↓kSI4_eq, ↓kSI5_eq, ↓we_app, ↓kAp0_eq, ↓kAp1_eq, ↓kAp2_eq, ↓kAp3_eq, ↓we_user, ↓kUsr_eq, ↓kUsr1_eq, ↓kUsr2_eq, ↓kUsr3_fz, ↓kUsr3_own, ↓warg_nil, ↓warg_fz, ↓warg_own, ↓warg_plc, ↓kArg1_eq, ↓kArg2_eq, ↓kArgP_own, ↓kArgP_ref, ↓kArgP_fz, ↓kArgP_rfz, ↓wc_run, ↓kRun_rt, ↓kRun_nx, ↓kRunR_fz, ↓kRunR_own, ↓wex_nil, ↓wex_fz, ↓wex_ref, ↓wex_rfz, ↓kEx_eq, ↓we_rev, ↓kRev0_eq, ↓kRev_l, ↓wk_eq, ↓kOwnK_own, ↓kOwnK_ref, ↓ws_setKey, ↓kSK1_eq, ↓kSK2_eq, ↓kSK3_eq, ↓kSK4_s, ↓kSK4_i, ↓kSK5_eq, ↓kSK6_eq, ↓we_get1, ↓kG1_eq, ↓kG2_d, ↓kG3_eq, ↓kG4_d, ↓kG5_s, ↓kG5_i, ↓we_get2, ↓kH1_eq, ↓kH2_d, ↓kH3_eq, ↓kH3b_eq, ↓kH4_d, ↓kH5_s, ↓kH5_i, ↓kWh_t, ↓kWh_f, ↓ws_while, ↓we_ext, ↓kEx0_eq, ↓kEx1_eq, ↓kEx3_eq, ↓kJ_nx, ↓kJ_rt, ↓kJ_bk, ↓kJ_ct, ↓kIs_eq, ↓kIsE_eq, wp_some, backSVs_nil, backSVs_cons, lock_unb, lock_fz, lock_own, plain_fz, plain_own, enter_fz, enter_own, put_ownE, put_refE, back_oo, back_of, back_ro, back_rf, back_fz, back_rfz, freeze_own, freeze_ref, freeze_fz, backAt_eq, findSV_nil, findSV_nil2, findSV_plc, findSV_fz, findSV_own, apart_nil, apart_fz, apart_own, apart_plc, placed_nil, placed_fz, placed_own, placed_plc, wipeE_nil, wipeE_cons, backE_nil, backE_cons, unlocked_nil, unlocked_cons, List.set_cons_zero, List.set_cons_succ, List.getD_cons_zero, List.getD_cons_succ, List.getElem?_cons_zero, List.getElem?_cons_succ, List.map_cons, List.map_nil, List.cons_append, List.nil_append, List.replicate_succ, List.replicate_zero, List.length_cons, List.length_nil, List.all_cons, List.all_nil, Nat.reduceSub, Nat.reduceAdd, Nat.reduceLeDiff, Nat.reduceEqDiff, Nat.reduceLT, Nat.zero_add, Bool.not_true, Bool.not_false, Bool.and_true, Bool.true_and, Bool.and_self, and_true, true_and, if_true, reduceIte, reduceCtorEq, decide_true, decide_false, Bool.false_eq_true, Bool.or_false, Bool.or_true, Bool.false_or, Bool.true_or, Bool.and_false, Bool.false_and, Nat.le_refl, lineN, Nat.one_ne_zero, Nat.zero_ne_one, addD_i, subD_i, negD_i, cmpI_i, eqD_i, neD_i, eqD_s, neD_s, eqD_b, neD_b, isD_n, isD_b, isNotD_n, isNotD_b, isBool_b, isNone_n, isNone_b, isNone_i, isNone_s, isNone_l, isNone_t, isNone_d, isi_eq, lenD_l, lenD_t, absD_n, maxD_m, minD_m, intD_i, listD_l, listD_t, tupleD_l, tupleD_t, isiB, mulSD_i, divD_i, modD_i, powD_i, ixD_l, ixD_t, ixD_s, slD_l, slD_t, slD_s, lenD_s, addD_s, addD_l, addD_t, strD_i, wp_bind, wp_guard, atI_0, atI_1, atI_2, atI_3, atI_4, ixN_0, ixN_1, ixN_2, Int.reduceNeg, Int.reduceSub, Int.reduceAdd, listD_s, tupleD_s, mulSD_s, small64_eq, decide_eq_true_eq, or_true, true_or, Int.reducePow, Int.reduceToNat, Int.reduceLE, Int.reduceLT, Int.reduceMul, Int.reduceEq, Int.zero_add, Nat.reducePow, Nat.reduceMul, Int.reduceAbs, rangeD_1, rangeD_2, rangeD_3, sortedD_l, maxLD_l, minLD_l, sumLD_l, reprD_1, ixD_ds, ixD_di, inD_ds, inD_di, notInD_ds, notInD_di, dictPD_l, intsOf_nil, intsOf_cons, Option.bind_some, List.max?_cons', List.min?_cons', List.foldl_cons, List.foldl_nil, kDictb_s, kDictb_int, Int.cast_ofNat_Int, upperD_eq, cutS_S, S_cps, S_len', SX.S_len, SX.S_cat, S_mk, repS_S, inD_S, notInD_S, signD_S, ixD_S, cutG_none, cutG_but, cutD_G, lit_0, lit_1, lit_2, lit_3, lit_4, hs])
      refine take_ok (by decide) (by decide) fun r p2 c2 r0 r1 => ?_
      (try simp only [↓wx_0, ↓wx_s, ↓wv_fz, ↓wv_own, ↓wv_plc, ↓kView_fz, ↓kView_own, ↓kView_ref, ↓kView_rfz, ↓wf_fz, ↓wf_own, ↓wf_plc, ↓kFix_fz, ↓kFix_rfz, ↓kFix_own, ↓kFix_ref, ↓we_lit, ↓we_slot, ↓kSlot_fz, ↓kSlot_rfz, ↓kSlot_own, ↓kSlot_ref, ↓wa_nil, ↓wa_cons, ↓kCons1_eq, ↓kCons2_eq, ↓wvs_nil, ↓wvs_cons, ↓kVs1_eq, ↓kVs2_eq, ↓we_op2, ↓kOp2a_eq, ↓kOp2b_eq, ↓kOp2c_eq, ↓kOp2d_eq, ↓we_op1, ↓kOp1a_eq, ↓kOp1b_eq, ↓we_call, ↓kCalla_eq, ↓kCallb_eq, ↓wt_asT, ↓kAsT_eq, ↓wt_and, ↓wt_or, ↓wt_not, ↓kAnd_t, ↓kAnd_f, ↓kOr_t, ↓kOr_f, ↓kNot_eq, ↓we_eT, ↓kET_eq, ↓we_if, ↓kIfE_t, ↓kIfE_f, ↓we_chain, ↓kCh1_eq, ↓kCh2_eq, ↓kCh3_eq, ↓kCh4_eq, ↓kCh5_t, ↓kCh5_f, ↓wfs_nil, ↓wfs_cons, ↓kFs1_eq, ↓kFs2_eq, ↓we_tup, ↓we_lst, ↓kTup_eq, ↓kTupb_eq, ↓kLst_eq, ↓kLstb_eq, ↓we_dict, ↓kDict_eq, ↓kDictb_nil, ↓we_dictT, ↓kDictT_eq, ↓kDictTb_2, ↓wa_pairs0, ↓wa_pairs, ↓wo_no, ↓wo_sm, ↓kSm_eq, ↓we_sl, ↓kSl1_eq, ↓kSl2_eq, ↓kSl3_eq, ↓kSl4_eq, ↓we_m0, ↓we_m1, ↓kM0_eq, ↓kM1_eq, ↓kM1b_eq, ↓kM1c_eq, ↓wg_slot, ↓kGSlot_eq, ↓wgs_nil, ↓wgs_cons, ↓kGs_eq, ↓wg_unp, ↓wi_any, ↓kIAnyA_eq, ↓kIAny_l, ↓kIAny_t, ↓kIAny_s, ↓wi_r1, ↓wi_r2, ↓kR1_eq, ↓kR2_eq, ↓kR2a_eq, ↓we_lc, ↓kLc_eq, ↓kLcE_eq, ↓kLcF_eq, ↓kLcR_eq, ↓kLcT_eq, ↓kLcB_t, ↓kLcB_f, ↓wt_yes, ↓ws_skip, ↓ws_seq, ↓kSeq_nx, ↓kSeq_rt, ↓kSeq_bk, ↓kSeq_ct, ↓ws_expr, ↓kExpr_eq, ↓ws_set, ↓kSet_eq, ↓kSetL_eq, ↓kSetV_fz, ↓kSetV_own, ↓kSetV_plc, ↓kSetP_own, ↓kSetP_ref, ↓kSetP_fz, ↓ws_asg, ↓kAsg_fz, ↓kAsgB_eq, ↓ws_ret, ↓kRet_fz, ↓kRet_own, ↓kRet_plc, ↓kRetP_own, ↓kRetP_ref, ↓ws_retN, ↓ws_if, ↓kIf_t, ↓kIf_f, ↓ws_brk, ↓ws_cnt, ↓ws_for, ↓kFor_eq, ↓kLoop_nx, ↓kLoop_ct, ↓kLoop_bk, ↓kLoop_rt, ↓kBody_eq, ↓wl_eq, ↓kOwnL_own, ↓kOwnL_ref, ↓ws_setIx, ↓kSI1_eq, ↓kSI2_eq, ↓kSI3_eq, ↓kSI4_eq, ↓kSI5_eq, ↓we_app, ↓kAp0_eq, ↓kAp1_eq, ↓kAp2_eq, ↓kAp3_eq, ↓we_user, ↓kUsr_eq, ↓kUsr1_eq, ↓kUsr2_eq, ↓kUsr3_fz, ↓kUsr3_own, ↓warg_nil, ↓warg_fz, ↓warg_own, ↓warg_plc, ↓kArg1_eq, ↓kArg2_eq, ↓kArgP_own, ↓kArgP_ref, ↓kArgP_fz, ↓kArgP_rfz, ↓wc_run, ↓kRun_rt, ↓kRun_nx, ↓kRunR_fz, ↓kRunR_own, ↓wex_nil, ↓wex_fz, ↓wex_ref, ↓wex_rfz, ↓kEx_eq, ↓we_rev, ↓kRev0_eq, ↓kRev_l, ↓wk_eq, ↓kOwnK_own, ↓kOwnK_ref, ↓ws_setKey, ↓kSK1_eq, ↓kSK2_eq, ↓kSK3_eq, ↓kSK4_s, ↓kSK4_i, ↓kSK5_eq, ↓kSK6_eq, ↓we_get1, ↓kG1_eq, ↓kG2_d, ↓kG3_eq, ↓kG4_d, ↓kG5_s, ↓kG5_i, ↓we_get2, ↓kH1_eq, ↓kH2_d, ↓kH3_eq, ↓kH3b_eq, ↓kH4_d, ↓kH5_s, ↓kH5_i, ↓kWh_t, ↓kWh_f, ↓ws_while, ↓we_ext, ↓kEx0_eq, ↓kEx1_eq, ↓kEx3_eq, ↓kJ_nx, ↓kJ_rt, ↓kJ_bk, ↓kJ_ct, ↓kIs_eq, ↓kIsE_eq, wp_some, backSVs_nil, backSVs_cons, lock_unb, lock_fz, lock_own, plain_fz, plain_own, enter_fz, enter_own, put_ownE, put_refE, back_oo, back_of, back_ro, back_rf, back_fz, back_rfz, freeze_own, freeze_ref, freeze_fz, backAt_eq, findSV_nil, findSV_nil2, findSV_plc, findSV_fz, findSV_own, apart_nil, apart_fz, apart_own, apart_plc, placed_nil, placed_fz, placed_own, placed_plc, wipeE_nil, wipeE_cons, backE_nil, backE_cons, unlocked_nil, unlocked_cons, List.set_cons_zero, List.set_cons_succ, List.getD_cons_zero, List.getD_cons_succ, List.getElem?_cons_zero, List.getElem?_cons_succ, List.map_cons, List.map_nil, List.cons_append, List.nil_append, List.replicate_succ, List.replicate_zero, List.length_cons, List.length_nil, List.all_cons, List.all_nil, Nat.reduceSub, Nat.reduceAdd, Nat.reduceLeDiff, Nat.reduceEqDiff, Nat.reduceLT, Nat.zero_add, Bool.not_true, Bool.not_false, Bool.and_true, Bool.true_and, Bool.and_self, and_true, true_and, if_true, reduceIte, reduceCtorEq, decide_true, decide_false, Bool.false_eq_true, Bool.or_false, Bool.or_true, Bool.false_or, Bool.true_or, Bool.and_false, Bool.false_and, Nat.le_refl, lineN, Nat.one_ne_zero, Nat.zero_ne_one, addD_i, subD_i, negD_i, cmpI_i, eqD_i, neD_i, eqD_s, neD_s, eqD_b, neD_b, isD_n, isD_b, isNotD_n, isNotD_b, isBool_b, isNone_n, isNone_b, isNone_i, isNone_s, isNone_l, isNone_t, isNone_d, isi_eq, lenD_l, lenD_t, absD_n, maxD_m, minD_m, intD_i, listD_l, listD_t, tupleD_l, tupleD_t, isiB, mulSD_i, divD_i, modD_i, powD_i, ixD_l, ixD_t, ixD_s, slD_l, slD_t, slD_s, lenD_s, addD_s, addD_l, addD_t, strD_i, wp_bind, wp_guard, atI_0, atI_1, atI_2, atI_3, atI_4, ixN_0, ixN_1, ixN_2, Int.reduceNeg, Int.reduceSub, Int.reduceAdd, listD_s, tupleD_s, mulSD_s, small64_eq, decide_eq_true_eq, or_true, true_or, Int.reducePow, Int.reduceToNat, Int.reduceLE, Int.reduceLT, Int.reduceMul, Int.reduceEq, Int.zero_add, Nat.reducePow, Nat.reduceMul, Int.reduceAbs, rangeD_1, rangeD_2, rangeD_3, sortedD_l, maxLD_l, minLD_l, sumLD_l, reprD_1, ixD_ds, ixD_di, inD_ds, inD_di, notInD_ds, notInD_di, dictPD_l, intsOf_nil, intsOf_cons, Option.bind_some, List.max?_cons', List.min?_cons', List.foldl_cons, List.foldl_nil, kDictb_s, kDictb_int, Int.cast_ofNat_Int, upperD_eq, cutS_S, S_cps, S_len', SX.S_len, SX.S_cat, S_mk, repS_S, inD_S, notInD_S, signD_S, ixD_S, cutG_none, cutG_but, cutD_G, lit_0, lit_1, lit_2, lit_3, lit_4])
      exact ⟨_, _, _, _, rfl, rfl⟩
    · obtain ⟨p', c', f, s, hs, rfl⟩ := he
      (try simp only [↓wx_0, ↓wx_s, ↓wv_fz, ↓wv_own, ↓wv_plc, ↓kView_fz, ↓kView_own, ↓kView_ref, ↓kView_rfz, ↓wf_fz, ↓wf_own, ↓wf_plc, ↓kFix_fz, ↓kFix_rfz, ↓kFix_own, ↓kFix_ref, ↓we_lit, ↓we_slot, ↓kSlot_fz, ↓kSlot_rfz, ↓kSlot_own, ↓kSlot_ref, ↓wa_nil, ↓wa_cons, ↓kCons1_eq, ↓kCons2_eq, ↓wvs_nil, ↓wvs_cons, ↓kVs1_eq, ↓kVs2_eq, ↓we_op2, ↓kOp2a_eq, ↓kOp2b_eq, ↓kOp2c_eq, ↓kOp2d_eq, ↓we_op1, ↓kOp1a_eq, ↓kOp1b_eq, ↓we_call, ↓kCalla_eq, ↓kCallb_eq, ↓wt_asT, ↓kAsT_eq, ↓wt_and, ↓wt_or, ↓wt_not, ↓kAnd_t, ↓kAnd_f, ↓kOr_t, ↓kOr_f, ↓kNot_eq, ↓we_eT, ↓kET_eq, ↓we_if, ↓kIfE_t, ↓kIfE_f, ↓we_chain, ↓kCh1_eq, ↓kCh2_eq, ↓kCh3_eq, ↓kCh4_eq, ↓kCh5_t, ↓kCh5_f, ↓wfs_nil, ↓wfs_cons, ↓kFs1_eq, ↓kFs2_eq, ↓we_tup, ↓we_lst, ↓kTup_eq, ↓kTupb_eq, ↓kLst_eq, ↓kLstb_eq, ↓we_dict, ↓kDict_eq, ↓kDictb_nil, ↓we_dictT, ↓kDictT_eq, ↓kDictTb_2, ↓wa_pairs0, ↓wa_pairs, ↓wo_no, ↓wo_sm, ↓kSm_eq, ↓we_sl, ↓kSl1_eq, ↓kSl2_eq, ↓kSl3_eq, ↓kSl4_eq, ↓we_m0, ↓we_m1, ↓kM0_eq, ↓kM1_eq, ↓kM1b_eq, ↓kM1c_eq, ↓wg_slot, ↓kGSlot_eq, ↓wgs_nil, ↓wgs_cons, ↓kGs_eq, ↓wg_unp, ↓wi_any, ↓kIAnyA_eq, ↓kIAny_l, ↓kIAny_t, ↓kIAny_s, ↓wi_r1, ↓wi_r2, ↓kR1_eq, ↓kR2_eq, ↓kR2a_eq, ↓we_lc, ↓kLc_eq, ↓kLcE_eq, ↓kLcF_eq, ↓kLcR_eq, ↓kLcT_eq, ↓kLcB_t, ↓kLcB_f, ↓wt_yes, ↓ws_skip, ↓ws_seq, ↓kSeq_nx, ↓kSeq_rt, ↓kSeq_bk, ↓kSeq_ct, ↓ws_expr, ↓kExpr_eq, ↓ws_set, ↓kSet_eq, ↓kSetL_eq, ↓kSetV_fz, ↓kSetV_own, ↓kSetV_plc, ↓kSetP_own, ↓kSetP_ref, ↓kSetP_fz, ↓ws_asg, ↓kAsg_fz, ↓kAsgB_eq, ↓ws_ret, ↓kRet_fz, ↓kRet_own, ↓kRet_plc, ↓kRetP_own, ↓kRetP_ref, ↓ws_retN, ↓ws_if, ↓kIf_t, ↓kIf_f, ↓ws_brk, ↓ws_cnt, ↓ws_for, ↓kFor_eq, ↓kLoop_nx, ↓kLoop_ct, ↓kLoop_bk, ↓kLoop_rt, ↓kBody_eq, ↓wl_eq, ↓kOwnL_own, ↓kOwnL_ref, ↓ws_setIx, ↓kSI1_eq, ↓kSI2_eq, ↓kSI3_eq, ↓kSI4_eq, ↓kSI5_eq, ↓we_app, ↓kAp0_eq, ↓kAp1_eq, ↓kAp2_eq, ↓kAp3_eq, ↓we_user, ↓kUsr_eq, ↓kUsr1_eq, ↓kUsr2_eq, ↓kUsr3_fz, ↓kUsr3_own, ↓warg_nil, ↓warg_fz, ↓warg_own, ↓warg_plc, ↓kArg1_eq, ↓kArg2_eq, ↓kArgP_own, ↓kArgP_ref, ↓kArgP_fz, ↓kArgP_rfz, ↓wc_run, ↓kRun_rt, ↓kRun_nx, ↓kRunR_fz, ↓kRunR_own, ↓wex_nil, ↓wex_fz, ↓wex_ref, ↓wex_rfz, ↓kEx_eq, ↓we_rev, ↓kRev0_eq, ↓kRev_l, ↓wk_eq, ↓kOwnK_own, ↓kOwnK_ref, ↓ws_setKey, ↓kSK1_eq, ↓kSK2_eq, ↓kSK3_eq, ↓kSK4_s, ↓kSK4_i, ↓kSK5_eq, ↓kSK6_eq, ↓we_get1, ↓kG1_eq, ↓kG2_d, ↓kG3_eq, ↓kG4_d, ↓kG5_s, ↓kG5_i, ↓we_get2, ↓kH1_eq, ↓kH2_d, ↓kH3_eq, ↓kH3b_eq, ↓kH4_d, ↓kH5_s, ↓kH5_i, ↓kWh_t, ↓kWh_f, ↓ws_while, ↓we_ext, ↓kEx0_eq, ↓kEx1_eq, ↓kEx3_eq, ↓kJ_nx, ↓kJ_rt, ↓kJ_bk, ↓kJ_ct, ↓kIs_eq, ↓kIsE_eq, wp_some, backSVs_nil, backSVs_cons, lock_unb, lock_fz, lock_own, plain_fz, plain_own, enter_fz, enter_own, put_ownE, put_refE, back_oo, back_of, back_ro, back_rf, back_fz, back_rfz, freeze_own, freeze_ref, freeze_fz, backAt_eq, findSV_nil, findSV_nil2, findSV_plc, findSV_fz, findSV_own, apart_nil, apart_fz, apart_own, apart_plc, placed_nil, placed_fz, placed_own, placed_plc, wipeE_nil, wipeE_cons, backE_nil, backE_cons, unlocked_nil, unlocked_cons, List.set_cons_zero, List.set_cons_succ, List.getD_cons_zero, List.getD_cons_succ, List.getElem?_cons_zero, List.getElem?_cons_succ, List.map_cons, List.map_nil, List.cons_append, List.nil_append, List.replicate_succ, List.replicate_zero, List.length_cons, List.length_nil, List.all_cons, List.all_nil, Nat.reduceSub, Nat.reduceAdd, Nat.reduceLeDiff, Nat.reduceEqDiff, Nat.reduceLT, Nat.zero_add, Bool.not_true, Bool.not_false, Bool.and_true, Bool.true_and, Bool.and_self, and_true, true_and, if_true, reduceIte, reduceCtorEq, decide_true, decide_false, Bool.false_eq_true, Bool.or_false, Bool.or_true, Bool.false_or, Bool.true_or, Bool.and_false, Bool.false_and, Nat.le_refl, lineN, Nat.one_ne_zero, Nat.zero_ne_one, addD_i, subD_i, negD_i, cmpI_i, eqD_i, neD_i, eqD_s, neD_s, eqD_b, neD_b, isD_n, isD_b, isNotD_n, isNotD_b, isBool_b, isNone_n, isNone_b, isNone_i, isNone_s, isNone_l, isNone_t, isNone_d, isi_eq, lenD_l, lenD_t, absD_n, maxD_m, minD_m, intD_i, listD_l, listD_t, tupleD_l, tupleD_t, isiB, mulSD_i, divD_i, modD_i, powD_i, ixD_l, ixD_t, ixD_s, slD_l, slD_t, slD_s, lenD_s, addD_s, addD_l, addD_t, strD_i, wp_bind, wp_guard, atI_0, atI_1, atI_2, atI_3, atI_4, ixN_0, ixN_1, ixN_2, Int.reduceNeg, Int.reduceSub, Int.reduceAdd, listD_s, tupleD_s, mulSD_s, small64_eq, decide_eq_true_eq, or_true, true_or, Int.reducePow, Int.reduceToNat, Int.reduceLE, Int.reduceLT, Int.reduceMul, Int.reduceEq, Int.zero_add, Nat.reducePow, Nat.reduceMul, Int.reduceAbs, rangeD_1, rangeD_2, rangeD_3, sortedD_l, maxLD_l, minLD_l, sumLD_l, reprD_1, ixD_ds, ixD_di, inD_ds, inD_di, notInD_ds, notInD_di, dictPD_l, intsOf_nil, intsOf_cons, Option.bind_some, List.max?_cons', List.min?_cons', List.foldl_cons, List.foldl_nil, kDictb_s, kDictb_int, Int.cast_ofNat_Int, upperD_eq, cutS_S, S_cps, S_len', SX.S_len, SX.S_cat, S_mk, repS_S, inD_S, notInD_S, signD_S, ixD_S, cutG_none, cutG_but, cutD_G, lit_0, lit_1, lit_2, lit_3, lit_4])
      exact ⟨h0, k _ _ _ (Int.emod_nonneg _ (by omega)) (Int.emod_lt_of_pos _ h0)⟩

-- LITS: lit_0 lit_1 lit_2 lit_3 lit_4
/-! what is a spot, a box: of any data -/
def nearB : PyData → Bool
  | .int i => decide ((i.natAbs : Int) < 1000000000000)
  | _ => false
theorem nearB_int (i : Int) : nearB (.int i) = decide ((i.natAbs : Int) < 1000000000000) := by unfold nearB; rfl
theorem nearB_is {d : PyData} (h : nearB d = true) : ∃ i : Int, d = .int i ∧ (i.natAbs : Int) < 1000000000000 := by
  unfold nearB at h
  split at h
  · exact ⟨_, rfl, of_decide_eq_true h⟩
  · cases h
def spotB : PyData → Bool
  | .tuple [a, b] => nearB a && nearB b
  | _ => false
def leB : PyData → PyData → Bool
  | .tuple [.int a, .int b], .tuple [.int c, .int d] => decide (a ≤ c) && decide (b ≤ d)
  | _, _ => false
theorem leB_tt (a b c d : Int) : leB (.tuple [.int a, .int b]) (.tuple [.int c, .int d]) = (decide (a ≤ c) && decide (b ≤ d)) := by unfold leB; rfl
def boxB : PyData → Bool
  | .tuple [a, b] => spotB a && spotB b && leB a b
  | _ => false
def szT : PyData → Prop
  | .tuple xs => xs.length ≤ lineN
  | _ => True
def szB : PyData → Prop
  | .tuple xs => xs.length ≤ lineN ∧ ∀ x ∈ xs, szT x
  | _ => True
theorem isnear_any {d : PyData} {P : List SV → RV → Prop} (k : P [.fz d] (.fz (.bool (nearB d)))) : WC c_is_near [.fz d] P := by
  unfold c_is_near b_is_near
  cases d with
  | int i =>
    (try simp only [↓wx_0, ↓wx_s, ↓wv_fz, ↓wv_own, ↓wv_plc, ↓kView_fz, ↓kView_own, ↓kView_ref, ↓kView_rfz, ↓wf_fz, ↓wf_own, ↓wf_plc, ↓kFix_fz, ↓kFix_rfz, ↓kFix_own, ↓kFix_ref, ↓we_lit, ↓we_slot, ↓kSlot_fz, ↓kSlot_rfz, ↓kSlot_own, ↓kSlot_ref, ↓wa_nil, ↓wa_cons, ↓kCons1_eq, ↓kCons2_eq, ↓wvs_nil, ↓wvs_cons, ↓kVs1_eq, ↓kVs2_eq, ↓we_op2, ↓kOp2a_eq, ↓kOp2b_eq, ↓kOp2c_eq, ↓kOp2d_eq, ↓we_op1, ↓kOp1a_eq, ↓kOp1b_eq, ↓we_call, ↓kCalla_eq, ↓kCallb_eq, ↓wt_asT, ↓kAsT_eq, ↓wt_and, ↓wt_or, ↓wt_not, ↓kAnd_t, ↓kAnd_f, ↓kOr_t, ↓kOr_f, ↓kNot_eq, ↓we_eT, ↓kET_eq, ↓we_if, ↓kIfE_t, ↓kIfE_f, ↓we_chain, ↓kCh1_eq, ↓kCh2_eq, ↓kCh3_eq, ↓kCh4_eq, ↓kCh5_t, ↓kCh5_f, ↓wfs_nil, ↓wfs_cons, ↓kFs1_eq, ↓kFs2_eq, ↓we_tup, ↓we_lst, ↓kTup_eq, ↓kTupb_eq, ↓kLst_eq, ↓kLstb_eq, ↓we_dict, ↓kDict_eq, ↓kDictb_nil, ↓we_dictT, ↓kDictT_eq, ↓kDictTb_2, ↓wa_pairs0, ↓wa_pairs, ↓wo_no, ↓wo_sm, ↓kSm_eq, ↓we_sl, ↓kSl1_eq, ↓kSl2_eq, ↓kSl3_eq, ↓kSl4_eq, ↓we_m0, ↓we_m1, ↓kM0_eq, ↓kM1_eq, ↓kM1b_eq, ↓kM1c_eq, ↓wg_slot, ↓kGSlot_eq, ↓wgs_nil, ↓wgs_cons, ↓kGs_eq, ↓wg_unp, ↓wi_any, ↓kIAnyA_eq, ↓kIAny_l, ↓kIAny_t, ↓kIAny_s, ↓wi_r1, ↓wi_r2, ↓kR1_eq, ↓kR2_eq, ↓kR2a_eq, ↓we_lc, ↓kLc_eq, ↓kLcE_eq, ↓kLcF_eq, ↓kLcR_eq, ↓kLcT_eq, ↓kLcB_t, ↓kLcB_f, ↓wt_yes, ↓ws_skip, ↓ws_seq, ↓kSeq_nx, ↓kSeq_rt, ↓kSeq_bk, ↓kSeq_ct, ↓ws_expr, ↓kExpr_eq, ↓ws_set, ↓kSet_eq, ↓kSetL_eq, ↓kSetV_fz, ↓kSetV_own, ↓kSetV_plc, ↓kSetP_own, ↓kSetP_ref, ↓kSetP_fz, ↓ws_asg, ↓kAsg_fz, ↓kAsgB_eq, ↓ws_ret, ↓kRet_fz, ↓kRet_own, ↓kRet_plc, ↓kRetP_own, ↓kRetP_ref, ↓ws_retN, ↓ws_if, ↓kIf_t, ↓kIf_f, ↓ws_brk, ↓ws_cnt, ↓ws_for, ↓kFor_eq, ↓kLoop_nx, ↓kLoop_ct, ↓kLoop_bk, ↓kLoop_rt, ↓kBody_eq, ↓wl_eq, ↓kOwnL_own, ↓kOwnL_ref, ↓ws_setIx, ↓kSI1_eq, ↓kSI2_eq, ↓kSI3_eq, ↓kSI4_eq, ↓kSI5_eq, ↓we_app, ↓kAp0_eq, ↓kAp1_eq, ↓kAp2_eq, ↓kAp3_eq, ↓we_user, ↓kUsr_eq, ↓kUsr1_eq, ↓kUsr2_eq, ↓kUsr3_fz, ↓kUsr3_own, ↓warg_nil, ↓warg_fz, ↓warg_own, ↓warg_plc, ↓kArg1_eq, ↓kArg2_eq, ↓kArgP_own, ↓kArgP_ref, ↓kArgP_fz, ↓kArgP_rfz, ↓wc_run, ↓kRun_rt, ↓kRun_nx, ↓kRunR_fz, ↓kRunR_own, ↓wex_nil, ↓wex_fz, ↓wex_ref, ↓wex_rfz, ↓kEx_eq, ↓we_rev, ↓kRev0_eq, ↓kRev_l, ↓wk_eq, ↓kOwnK_own, ↓kOwnK_ref, ↓ws_setKey, ↓kSK1_eq, ↓kSK2_eq, ↓kSK3_eq, ↓kSK4_s, ↓kSK4_i, ↓kSK5_eq, ↓kSK6_eq, ↓we_get1, ↓kG1_eq, ↓kG2_d, ↓kG3_eq, ↓kG4_d, ↓kG5_s, ↓kG5_i, ↓we_get2, ↓kH1_eq, ↓kH2_d, ↓kH3_eq, ↓kH3b_eq, ↓kH4_d, ↓kH5_s, ↓kH5_i, ↓kWh_t, ↓kWh_f, ↓ws_while, ↓we_ext, ↓kEx0_eq, ↓kEx1_eq, ↓kEx3_eq, ↓kJ_nx, ↓kJ_rt, ↓kJ_bk, ↓kJ_ct, ↓kIs_eq, ↓kIsE_eq, wp_some, backSVs_nil, backSVs_cons, lock_unb, lock_fz, lock_own, plain_fz, plain_own, enter_fz, enter_own, put_ownE, put_refE, back_oo, back_of, back_ro, back_rf, back_fz, back_rfz, freeze_own, freeze_ref, freeze_fz, backAt_eq, findSV_nil, findSV_nil2, findSV_plc, findSV_fz, findSV_own, apart_nil, apart_fz, apart_own, apart_plc, placed_nil, placed_fz, placed_own, placed_plc, wipeE_nil, wipeE_cons, backE_nil, backE_cons, unlocked_nil, unlocked_cons, List.set_cons_zero, List.set_cons_succ, List.getD_cons_zero, List.getD_cons_succ, List.getElem?_cons_zero, List.getElem?_cons_succ, List.map_cons, List.map_nil, List.cons_append, List.nil_append, List.replicate_succ, List.replicate_zero, List.length_cons, List.length_nil, List.all_cons, List.all_nil, Nat.reduceSub, Nat.reduceAdd, Nat.reduceLeDiff, Nat.reduceEqDiff, Nat.reduceLT, Nat.zero_add, Bool.not_true, Bool.not_false, Bool.and_true, Bool.true_and, Bool.and_self, and_true, true_and, if_true, reduceIte, reduceCtorEq, decide_true, decide_false, Bool.false_eq_true, Bool.or_false, Bool.or_true, Bool.false_or, Bool.true_or, Bool.and_false, Bool.false_and, Nat.le_refl, lineN, Nat.one_ne_zero, Nat.zero_ne_one, addD_i, subD_i, negD_i, cmpI_i, eqD_i, neD_i, eqD_s, neD_s, eqD_b, neD_b, isD_n, isD_b, isNotD_n, isNotD_b, isBool_b, isNone_n, isNone_b, isNone_i, isNone_s, isNone_l, isNone_t, isNone_d, isi_eq, lenD_l, lenD_t, absD_n, maxD_m, minD_m, intD_i, listD_l, listD_t, tupleD_l, tupleD_t, isiB, mulSD_i, divD_i, modD_i, powD_i, ixD_l, ixD_t, ixD_s, slD_l, slD_t, slD_s, lenD_s, addD_s, addD_l, addD_t, strD_i, wp_bind, wp_guard, atI_0, atI_1, atI_2, atI_3, atI_4, ixN_0, ixN_1, ixN_2, Int.reduceNeg, Int.reduceSub, Int.reduceAdd, listD_s, tupleD_s, mulSD_s, small64_eq, decide_eq_true_eq, or_true, true_or, Int.reducePow, Int.reduceToNat, Int.reduceLE, Int.reduceLT, Int.reduceMul, Int.reduceEq, Int.zero_add, Nat.reducePow, Nat.reduceMul, Int.reduceAbs, rangeD_1, rangeD_2, rangeD_3, sortedD_l, maxLD_l, minLD_l, sumLD_l, reprD_1, ixD_ds, ixD_di, inD_ds, inD_di, notInD_ds, notInD_di, dictPD_l, intsOf_nil, intsOf_cons, Option.bind_some, List.max?_cons', List.min?_cons', List.foldl_cons, List.foldl_nil, kDictb_s, kDictb_int, Int.cast_ofNat_Int, upperD_eq, cutS_S, S_cps, S_len', SX.S_len, SX.S_cat, S_mk, repS_S, inD_S, notInD_S, signD_S, ixD_S, cutG_none, cutG_but, cutD_G, lit_0, lit_1, lit_2, lit_3, lit_4])
    unfold c_is_whole b_is_whole
    (try simp only [↓wx_0, ↓wx_s, ↓wv_fz, ↓wv_own, ↓wv_plc, ↓kView_fz, ↓kView_own, ↓kView_ref, ↓kView_rfz, ↓wf_fz, ↓wf_own, ↓wf_plc, ↓kFix_fz, ↓kFix_rfz, ↓kFix_own, ↓kFix_ref, ↓we_lit, ↓we_slot, ↓kSlot_fz, ↓kSlot_rfz, ↓kSlot_own, ↓kSlot_ref, ↓wa_nil, ↓wa_cons, ↓kCons1_eq, ↓kCons2_eq, ↓wvs_nil, ↓wvs_cons, ↓kVs1_eq, ↓kVs2_eq, ↓we_op2, ↓kOp2a_eq, ↓kOp2b_eq, ↓kOp2c_eq, ↓kOp2d_eq, ↓we_op1, ↓kOp1a_eq, ↓kOp1b_eq, ↓we_call, ↓kCalla_eq, ↓kCallb_eq, ↓wt_asT, ↓kAsT_eq, ↓wt_and, ↓wt_or, ↓wt_not, ↓kAnd_t, ↓kAnd_f, ↓kOr_t, ↓kOr_f, ↓kNot_eq, ↓we_eT, ↓kET_eq, ↓we_if, ↓kIfE_t, ↓kIfE_f, ↓we_chain, ↓kCh1_eq, ↓kCh2_eq, ↓kCh3_eq, ↓kCh4_eq, ↓kCh5_t, ↓kCh5_f, ↓wfs_nil, ↓wfs_cons, ↓kFs1_eq, ↓kFs2_eq, ↓we_tup, ↓we_lst, ↓kTup_eq, ↓kTupb_eq, ↓kLst_eq, ↓kLstb_eq, ↓we_dict, ↓kDict_eq, ↓kDictb_nil, ↓we_dictT, ↓kDictT_eq, ↓kDictTb_2, ↓wa_pairs0, ↓wa_pairs, ↓wo_no, ↓wo_sm, ↓kSm_eq, ↓we_sl, ↓kSl1_eq, ↓kSl2_eq, ↓kSl3_eq, ↓kSl4_eq, ↓we_m0, ↓we_m1, ↓kM0_eq, ↓kM1_eq, ↓kM1b_eq, ↓kM1c_eq, ↓wg_slot, ↓kGSlot_eq, ↓wgs_nil, ↓wgs_cons, ↓kGs_eq, ↓wg_unp, ↓wi_any, ↓kIAnyA_eq, ↓kIAny_l, ↓kIAny_t, ↓kIAny_s, ↓wi_r1, ↓wi_r2, ↓kR1_eq, ↓kR2_eq, ↓kR2a_eq, ↓we_lc, ↓kLc_eq, ↓kLcE_eq, ↓kLcF_eq, ↓kLcR_eq, ↓kLcT_eq, ↓kLcB_t, ↓kLcB_f, ↓wt_yes, ↓ws_skip, ↓ws_seq, ↓kSeq_nx, ↓kSeq_rt, ↓kSeq_bk, ↓kSeq_ct, ↓ws_expr, ↓kExpr_eq, ↓ws_set, ↓kSet_eq, ↓kSetL_eq, ↓kSetV_fz, ↓kSetV_own, ↓kSetV_plc, ↓kSetP_own, ↓kSetP_ref, ↓kSetP_fz, ↓ws_asg, ↓kAsg_fz, ↓kAsgB_eq, ↓ws_ret, ↓kRet_fz, ↓kRet_own, ↓kRet_plc, ↓kRetP_own, ↓kRetP_ref, ↓ws_retN, ↓ws_if, ↓kIf_t, ↓kIf_f, ↓ws_brk, ↓ws_cnt, ↓ws_for, ↓kFor_eq, ↓kLoop_nx, ↓kLoop_ct, ↓kLoop_bk, ↓kLoop_rt, ↓kBody_eq, ↓wl_eq, ↓kOwnL_own, ↓kOwnL_ref, ↓ws_setIx, ↓kSI1_eq, ↓kSI2_eq, ↓kSI3_eq, ↓kSI4_eq, ↓kSI5_eq, ↓we_app, ↓kAp0_eq, ↓kAp1_eq, ↓kAp2_eq, ↓kAp3_eq, ↓we_user, ↓kUsr_eq, ↓kUsr1_eq, ↓kUsr2_eq, ↓kUsr3_fz, ↓kUsr3_own, ↓warg_nil, ↓warg_fz, ↓warg_own, ↓warg_plc, ↓kArg1_eq, ↓kArg2_eq, ↓kArgP_own, ↓kArgP_ref, ↓kArgP_fz, ↓kArgP_rfz, ↓wc_run, ↓kRun_rt, ↓kRun_nx, ↓kRunR_fz, ↓kRunR_own, ↓wex_nil, ↓wex_fz, ↓wex_ref, ↓wex_rfz, ↓kEx_eq, ↓we_rev, ↓kRev0_eq, ↓kRev_l, ↓wk_eq, ↓kOwnK_own, ↓kOwnK_ref, ↓ws_setKey, ↓kSK1_eq, ↓kSK2_eq, ↓kSK3_eq, ↓kSK4_s, ↓kSK4_i, ↓kSK5_eq, ↓kSK6_eq, ↓we_get1, ↓kG1_eq, ↓kG2_d, ↓kG3_eq, ↓kG4_d, ↓kG5_s, ↓kG5_i, ↓we_get2, ↓kH1_eq, ↓kH2_d, ↓kH3_eq, ↓kH3b_eq, ↓kH4_d, ↓kH5_s, ↓kH5_i, ↓kWh_t, ↓kWh_f, ↓ws_while, ↓we_ext, ↓kEx0_eq, ↓kEx1_eq, ↓kEx3_eq, ↓kJ_nx, ↓kJ_rt, ↓kJ_bk, ↓kJ_ct, ↓kIs_eq, ↓kIsE_eq, wp_some, backSVs_nil, backSVs_cons, lock_unb, lock_fz, lock_own, plain_fz, plain_own, enter_fz, enter_own, put_ownE, put_refE, back_oo, back_of, back_ro, back_rf, back_fz, back_rfz, freeze_own, freeze_ref, freeze_fz, backAt_eq, findSV_nil, findSV_nil2, findSV_plc, findSV_fz, findSV_own, apart_nil, apart_fz, apart_own, apart_plc, placed_nil, placed_fz, placed_own, placed_plc, wipeE_nil, wipeE_cons, backE_nil, backE_cons, unlocked_nil, unlocked_cons, List.set_cons_zero, List.set_cons_succ, List.getD_cons_zero, List.getD_cons_succ, List.getElem?_cons_zero, List.getElem?_cons_succ, List.map_cons, List.map_nil, List.cons_append, List.nil_append, List.replicate_succ, List.replicate_zero, List.length_cons, List.length_nil, List.all_cons, List.all_nil, Nat.reduceSub, Nat.reduceAdd, Nat.reduceLeDiff, Nat.reduceEqDiff, Nat.reduceLT, Nat.zero_add, Bool.not_true, Bool.not_false, Bool.and_true, Bool.true_and, Bool.and_self, and_true, true_and, if_true, reduceIte, reduceCtorEq, decide_true, decide_false, Bool.false_eq_true, Bool.or_false, Bool.or_true, Bool.false_or, Bool.true_or, Bool.and_false, Bool.false_and, Nat.le_refl, lineN, Nat.one_ne_zero, Nat.zero_ne_one, addD_i, subD_i, negD_i, cmpI_i, eqD_i, neD_i, eqD_s, neD_s, eqD_b, neD_b, isD_n, isD_b, isNotD_n, isNotD_b, isBool_b, isNone_n, isNone_b, isNone_i, isNone_s, isNone_l, isNone_t, isNone_d, isi_eq, lenD_l, lenD_t, absD_n, maxD_m, minD_m, intD_i, listD_l, listD_t, tupleD_l, tupleD_t, isiB, mulSD_i, divD_i, modD_i, powD_i, ixD_l, ixD_t, ixD_s, slD_l, slD_t, slD_s, lenD_s, addD_s, addD_l, addD_t, strD_i, wp_bind, wp_guard, atI_0, atI_1, atI_2, atI_3, atI_4, ixN_0, ixN_1, ixN_2, Int.reduceNeg, Int.reduceSub, Int.reduceAdd, listD_s, tupleD_s, mulSD_s, small64_eq, decide_eq_true_eq, or_true, true_or, Int.reducePow, Int.reduceToNat, Int.reduceLE, Int.reduceLT, Int.reduceMul, Int.reduceEq, Int.zero_add, Nat.reducePow, Nat.reduceMul, Int.reduceAbs, rangeD_1, rangeD_2, rangeD_3, sortedD_l, maxLD_l, minLD_l, sumLD_l, reprD_1, ixD_ds, ixD_di, inD_ds, inD_di, notInD_ds, notInD_di, dictPD_l, intsOf_nil, intsOf_cons, Option.bind_some, List.max?_cons', List.min?_cons', List.foldl_cons, List.foldl_nil, kDictb_s, kDictb_int, Int.cast_ofNat_Int, upperD_eq, cutS_S, S_cps, S_len', SX.S_len, SX.S_cat, S_mk, repS_S, inD_S, notInD_S, signD_S, ixD_S, cutG_none, cutG_but, cutD_G, lit_0, lit_1, lit_2, lit_3, lit_4])
    exact k
  | _ =>
    (try simp only [↓wx_0, ↓wx_s, ↓wv_fz, ↓wv_own, ↓wv_plc, ↓kView_fz, ↓kView_own, ↓kView_ref, ↓kView_rfz, ↓wf_fz, ↓wf_own, ↓wf_plc, ↓kFix_fz, ↓kFix_rfz, ↓kFix_own, ↓kFix_ref, ↓we_lit, ↓we_slot, ↓kSlot_fz, ↓kSlot_rfz, ↓kSlot_own, ↓kSlot_ref, ↓wa_nil, ↓wa_cons, ↓kCons1_eq, ↓kCons2_eq, ↓wvs_nil, ↓wvs_cons, ↓kVs1_eq, ↓kVs2_eq, ↓we_op2, ↓kOp2a_eq, ↓kOp2b_eq, ↓kOp2c_eq, ↓kOp2d_eq, ↓we_op1, ↓kOp1a_eq, ↓kOp1b_eq, ↓we_call, ↓kCalla_eq, ↓kCallb_eq, ↓wt_asT, ↓kAsT_eq, ↓wt_and, ↓wt_or, ↓wt_not, ↓kAnd_t, ↓kAnd_f, ↓kOr_t, ↓kOr_f, ↓kNot_eq, ↓we_eT, ↓kET_eq, ↓we_if, ↓kIfE_t, ↓kIfE_f, ↓we_chain, ↓kCh1_eq, ↓kCh2_eq, ↓kCh3_eq, ↓kCh4_eq, ↓kCh5_t, ↓kCh5_f, ↓wfs_nil, ↓wfs_cons, ↓kFs1_eq, ↓kFs2_eq, ↓we_tup, ↓we_lst, ↓kTup_eq, ↓kTupb_eq, ↓kLst_eq, ↓kLstb_eq, ↓we_dict, ↓kDict_eq, ↓kDictb_nil, ↓we_dictT, ↓kDictT_eq, ↓kDictTb_2, ↓wa_pairs0, ↓wa_pairs, ↓wo_no, ↓wo_sm, ↓kSm_eq, ↓we_sl, ↓kSl1_eq, ↓kSl2_eq, ↓kSl3_eq, ↓kSl4_eq, ↓we_m0, ↓we_m1, ↓kM0_eq, ↓kM1_eq, ↓kM1b_eq, ↓kM1c_eq, ↓wg_slot, ↓kGSlot_eq, ↓wgs_nil, ↓wgs_cons, ↓kGs_eq, ↓wg_unp, ↓wi_any, ↓kIAnyA_eq, ↓kIAny_l, ↓kIAny_t, ↓kIAny_s, ↓wi_r1, ↓wi_r2, ↓kR1_eq, ↓kR2_eq, ↓kR2a_eq, ↓we_lc, ↓kLc_eq, ↓kLcE_eq, ↓kLcF_eq, ↓kLcR_eq, ↓kLcT_eq, ↓kLcB_t, ↓kLcB_f, ↓wt_yes, ↓ws_skip, ↓ws_seq, ↓kSeq_nx, ↓kSeq_rt, ↓kSeq_bk, ↓kSeq_ct, ↓ws_expr, ↓kExpr_eq, ↓ws_set, ↓kSet_eq, ↓kSetL_eq, ↓kSetV_fz, ↓kSetV_own, ↓kSetV_plc, ↓kSetP_own, ↓kSetP_ref, ↓kSetP_fz, ↓ws_asg, ↓kAsg_fz, ↓kAsgB_eq, ↓ws_ret, ↓kRet_fz, ↓kRet_own, ↓kRet_plc, ↓kRetP_own, ↓kRetP_ref, ↓ws_retN, ↓ws_if, ↓kIf_t, ↓kIf_f, ↓ws_brk, ↓ws_cnt, ↓ws_for, ↓kFor_eq, ↓kLoop_nx, ↓kLoop_ct, ↓kLoop_bk, ↓kLoop_rt, ↓kBody_eq, ↓wl_eq, ↓kOwnL_own, ↓kOwnL_ref, ↓ws_setIx, ↓kSI1_eq, ↓kSI2_eq, ↓kSI3_eq, ↓kSI4_eq, ↓kSI5_eq, ↓we_app, ↓kAp0_eq, ↓kAp1_eq, ↓kAp2_eq, ↓kAp3_eq, ↓we_user, ↓kUsr_eq, ↓kUsr1_eq, ↓kUsr2_eq, ↓kUsr3_fz, ↓kUsr3_own, ↓warg_nil, ↓warg_fz, ↓warg_own, ↓warg_plc, ↓kArg1_eq, ↓kArg2_eq, ↓kArgP_own, ↓kArgP_ref, ↓kArgP_fz, ↓kArgP_rfz, ↓wc_run, ↓kRun_rt, ↓kRun_nx, ↓kRunR_fz, ↓kRunR_own, ↓wex_nil, ↓wex_fz, ↓wex_ref, ↓wex_rfz, ↓kEx_eq, ↓we_rev, ↓kRev0_eq, ↓kRev_l, ↓wk_eq, ↓kOwnK_own, ↓kOwnK_ref, ↓ws_setKey, ↓kSK1_eq, ↓kSK2_eq, ↓kSK3_eq, ↓kSK4_s, ↓kSK4_i, ↓kSK5_eq, ↓kSK6_eq, ↓we_get1, ↓kG1_eq, ↓kG2_d, ↓kG3_eq, ↓kG4_d, ↓kG5_s, ↓kG5_i, ↓we_get2, ↓kH1_eq, ↓kH2_d, ↓kH3_eq, ↓kH3b_eq, ↓kH4_d, ↓kH5_s, ↓kH5_i, ↓kWh_t, ↓kWh_f, ↓ws_while, ↓we_ext, ↓kEx0_eq, ↓kEx1_eq, ↓kEx3_eq, ↓kJ_nx, ↓kJ_rt, ↓kJ_bk, ↓kJ_ct, ↓kIs_eq, ↓kIsE_eq, wp_some, backSVs_nil, backSVs_cons, lock_unb, lock_fz, lock_own, plain_fz, plain_own, enter_fz, enter_own, put_ownE, put_refE, back_oo, back_of, back_ro, back_rf, back_fz, back_rfz, freeze_own, freeze_ref, freeze_fz, backAt_eq, findSV_nil, findSV_nil2, findSV_plc, findSV_fz, findSV_own, apart_nil, apart_fz, apart_own, apart_plc, placed_nil, placed_fz, placed_own, placed_plc, wipeE_nil, wipeE_cons, backE_nil, backE_cons, unlocked_nil, unlocked_cons, List.set_cons_zero, List.set_cons_succ, List.getD_cons_zero, List.getD_cons_succ, List.getElem?_cons_zero, List.getElem?_cons_succ, List.map_cons, List.map_nil, List.cons_append, List.nil_append, List.replicate_succ, List.replicate_zero, List.length_cons, List.length_nil, List.all_cons, List.all_nil, Nat.reduceSub, Nat.reduceAdd, Nat.reduceLeDiff, Nat.reduceEqDiff, Nat.reduceLT, Nat.zero_add, Bool.not_true, Bool.not_false, Bool.and_true, Bool.true_and, Bool.and_self, and_true, true_and, if_true, reduceIte, reduceCtorEq, decide_true, decide_false, Bool.false_eq_true, Bool.or_false, Bool.or_true, Bool.false_or, Bool.true_or, Bool.and_false, Bool.false_and, Nat.le_refl, lineN, Nat.one_ne_zero, Nat.zero_ne_one, addD_i, subD_i, negD_i, cmpI_i, eqD_i, neD_i, eqD_s, neD_s, eqD_b, neD_b, isD_n, isD_b, isNotD_n, isNotD_b, isBool_b, isNone_n, isNone_b, isNone_i, isNone_s, isNone_l, isNone_t, isNone_d, isi_eq, lenD_l, lenD_t, absD_n, maxD_m, minD_m, intD_i, listD_l, listD_t, tupleD_l, tupleD_t, isiB, mulSD_i, divD_i, modD_i, powD_i, ixD_l, ixD_t, ixD_s, slD_l, slD_t, slD_s, lenD_s, addD_s, addD_l, addD_t, strD_i, wp_bind, wp_guard, atI_0, atI_1, atI_2, atI_3, atI_4, ixN_0, ixN_1, ixN_2, Int.reduceNeg, Int.reduceSub, Int.reduceAdd, listD_s, tupleD_s, mulSD_s, small64_eq, decide_eq_true_eq, or_true, true_or, Int.reducePow, Int.reduceToNat, Int.reduceLE, Int.reduceLT, Int.reduceMul, Int.reduceEq, Int.zero_add, Nat.reducePow, Nat.reduceMul, Int.reduceAbs, rangeD_1, rangeD_2, rangeD_3, sortedD_l, maxLD_l, minLD_l, sumLD_l, reprD_1, ixD_ds, ixD_di, inD_ds, inD_di, notInD_ds, notInD_di, dictPD_l, intsOf_nil, intsOf_cons, Option.bind_some, List.max?_cons', List.min?_cons', List.foldl_cons, List.foldl_nil, kDictb_s, kDictb_int, Int.cast_ofNat_Int, upperD_eq, cutS_S, S_cps, S_len', SX.S_len, SX.S_cat, S_mk, repS_S, inD_S, notInD_S, signD_S, ixD_S, cutG_none, cutG_but, cutD_G, lit_0, lit_1, lit_2, lit_3, lit_4])
    unfold c_is_whole b_is_whole
    (try simp only [↓wx_0, ↓wx_s, ↓wv_fz, ↓wv_own, ↓wv_plc, ↓kView_fz, ↓kView_own, ↓kView_ref, ↓kView_rfz, ↓wf_fz, ↓wf_own, ↓wf_plc, ↓kFix_fz, ↓kFix_rfz, ↓kFix_own, ↓kFix_ref, ↓we_lit, ↓we_slot, ↓kSlot_fz, ↓kSlot_rfz, ↓kSlot_own, ↓kSlot_ref, ↓wa_nil, ↓wa_cons, ↓kCons1_eq, ↓kCons2_eq, ↓wvs_nil, ↓wvs_cons, ↓kVs1_eq, ↓kVs2_eq, ↓we_op2, ↓kOp2a_eq, ↓kOp2b_eq, ↓kOp2c_eq, ↓kOp2d_eq, ↓we_op1, ↓kOp1a_eq, ↓kOp1b_eq, ↓we_call, ↓kCalla_eq, ↓kCallb_eq, ↓wt_asT, ↓kAsT_eq, ↓wt_and, ↓wt_or, ↓wt_not, ↓kAnd_t, ↓kAnd_f, ↓kOr_t, ↓kOr_f, ↓kNot_eq, ↓we_eT, ↓kET_eq, ↓we_if, ↓kIfE_t, ↓kIfE_f, ↓we_chain, ↓kCh1_eq, ↓kCh2_eq, ↓kCh3_eq, ↓kCh4_eq, ↓kCh5_t, ↓kCh5_f, ↓wfs_nil, ↓wfs_cons, ↓kFs1_eq, ↓kFs2_eq, ↓we_tup, ↓we_lst, ↓kTup_eq, ↓kTupb_eq, ↓kLst_eq, ↓kLstb_eq, ↓we_dict, ↓kDict_eq, ↓kDictb_nil, ↓we_dictT, ↓kDictT_eq, ↓kDictTb_2, ↓wa_pairs0, ↓wa_pairs, ↓wo_no, ↓wo_sm, ↓kSm_eq, ↓we_sl, ↓kSl1_eq, ↓kSl2_eq, ↓kSl3_eq, ↓kSl4_eq, ↓we_m0, ↓we_m1, ↓kM0_eq, ↓kM1_eq, ↓kM1b_eq, ↓kM1c_eq, ↓wg_slot, ↓kGSlot_eq, ↓wgs_nil, ↓wgs_cons, ↓kGs_eq, ↓wg_unp, ↓wi_any, ↓kIAnyA_eq, ↓kIAny_l, ↓kIAny_t, ↓kIAny_s, ↓wi_r1, ↓wi_r2, ↓kR1_eq, ↓kR2_eq, ↓kR2a_eq, ↓we_lc, ↓kLc_eq, ↓kLcE_eq, ↓kLcF_eq, ↓kLcR_eq, ↓kLcT_eq, ↓kLcB_t, ↓kLcB_f, ↓wt_yes, ↓ws_skip, ↓ws_seq, ↓kSeq_nx, ↓kSeq_rt, ↓kSeq_bk, ↓kSeq_ct, ↓ws_expr, ↓kExpr_eq, ↓ws_set, ↓kSet_eq, ↓kSetL_eq, ↓kSetV_fz, ↓kSetV_own, ↓kSetV_plc, ↓kSetP_own, ↓kSetP_ref, ↓kSetP_fz, ↓ws_asg, ↓kAsg_fz, ↓kAsgB_eq, ↓ws_ret, ↓kRet_fz, ↓kRet_own, ↓kRet_plc, ↓kRetP_own, ↓kRetP_ref, ↓ws_retN, ↓ws_if, ↓kIf_t, ↓kIf_f, ↓ws_brk, ↓ws_cnt, ↓ws_for, ↓kFor_eq, ↓kLoop_nx, ↓kLoop_ct, ↓kLoop_bk, ↓kLoop_rt, ↓kBody_eq, ↓wl_eq, ↓kOwnL_own, ↓kOwnL_ref, ↓ws_setIx, ↓kSI1_eq, ↓kSI2_eq, ↓kSI3_eq, ↓kSI4_eq, ↓kSI5_eq, ↓we_app, ↓kAp0_eq, ↓kAp1_eq, ↓kAp2_eq, ↓kAp3_eq, ↓we_user, ↓kUsr_eq, ↓kUsr1_eq, ↓kUsr2_eq, ↓kUsr3_fz, ↓kUsr3_own, ↓warg_nil, ↓warg_fz, ↓warg_own, ↓warg_plc, ↓kArg1_eq, ↓kArg2_eq, ↓kArgP_own, ↓kArgP_ref, ↓kArgP_fz, ↓kArgP_rfz, ↓wc_run, ↓kRun_rt, ↓kRun_nx, ↓kRunR_fz, ↓kRunR_own, ↓wex_nil, ↓wex_fz, ↓wex_ref, ↓wex_rfz, ↓kEx_eq, ↓we_rev, ↓kRev0_eq, ↓kRev_l, ↓wk_eq, ↓kOwnK_own, ↓kOwnK_ref, ↓ws_setKey, ↓kSK1_eq, ↓kSK2_eq, ↓kSK3_eq, ↓kSK4_s, ↓kSK4_i, ↓kSK5_eq, ↓kSK6_eq, ↓we_get1, ↓kG1_eq, ↓kG2_d, ↓kG3_eq, ↓kG4_d, ↓kG5_s, ↓kG5_i, ↓we_get2, ↓kH1_eq, ↓kH2_d, ↓kH3_eq, ↓kH3b_eq, ↓kH4_d, ↓kH5_s, ↓kH5_i, ↓kWh_t, ↓kWh_f, ↓ws_while, ↓we_ext, ↓kEx0_eq, ↓kEx1_eq, ↓kEx3_eq, ↓kJ_nx, ↓kJ_rt, ↓kJ_bk, ↓kJ_ct, ↓kIs_eq, ↓kIsE_eq, wp_some, backSVs_nil, backSVs_cons, lock_unb, lock_fz, lock_own, plain_fz, plain_own, enter_fz, enter_own, put_ownE, put_refE, back_oo, back_of, back_ro, back_rf, back_fz, back_rfz, freeze_own, freeze_ref, freeze_fz, backAt_eq, findSV_nil, findSV_nil2, findSV_plc, findSV_fz, findSV_own, apart_nil, apart_fz, apart_own, apart_plc, placed_nil, placed_fz, placed_own, placed_plc, wipeE_nil, wipeE_cons, backE_nil, backE_cons, unlocked_nil, unlocked_cons, List.set_cons_zero, List.set_cons_succ, List.getD_cons_zero, List.getD_cons_succ, List.getElem?_cons_zero, List.getElem?_cons_succ, List.map_cons, List.map_nil, List.cons_append, List.nil_append, List.replicate_succ, List.replicate_zero, List.length_cons, List.length_nil, List.all_cons, List.all_nil, Nat.reduceSub, Nat.reduceAdd, Nat.reduceLeDiff, Nat.reduceEqDiff, Nat.reduceLT, Nat.zero_add, Bool.not_true, Bool.not_false, Bool.and_true, Bool.true_and, Bool.and_self, and_true, true_and, if_true, reduceIte, reduceCtorEq, decide_true, decide_false, Bool.false_eq_true, Bool.or_false, Bool.or_true, Bool.false_or, Bool.true_or, Bool.and_false, Bool.false_and, Nat.le_refl, lineN, Nat.one_ne_zero, Nat.zero_ne_one, addD_i, subD_i, negD_i, cmpI_i, eqD_i, neD_i, eqD_s, neD_s, eqD_b, neD_b, isD_n, isD_b, isNotD_n, isNotD_b, isBool_b, isNone_n, isNone_b, isNone_i, isNone_s, isNone_l, isNone_t, isNone_d, isi_eq, lenD_l, lenD_t, absD_n, maxD_m, minD_m, intD_i, listD_l, listD_t, tupleD_l, tupleD_t, isiB, mulSD_i, divD_i, modD_i, powD_i, ixD_l, ixD_t, ixD_s, slD_l, slD_t, slD_s, lenD_s, addD_s, addD_l, addD_t, strD_i, wp_bind, wp_guard, atI_0, atI_1, atI_2, atI_3, atI_4, ixN_0, ixN_1, ixN_2, Int.reduceNeg, Int.reduceSub, Int.reduceAdd, listD_s, tupleD_s, mulSD_s, small64_eq, decide_eq_true_eq, or_true, true_or, Int.reducePow, Int.reduceToNat, Int.reduceLE, Int.reduceLT, Int.reduceMul, Int.reduceEq, Int.zero_add, Nat.reducePow, Nat.reduceMul, Int.reduceAbs, rangeD_1, rangeD_2, rangeD_3, sortedD_l, maxLD_l, minLD_l, sumLD_l, reprD_1, ixD_ds, ixD_di, inD_ds, inD_di, notInD_ds, notInD_di, dictPD_l, intsOf_nil, intsOf_cons, Option.bind_some, List.max?_cons', List.min?_cons', List.foldl_cons, List.foldl_nil, kDictb_s, kDictb_int, Int.cast_ofNat_Int, upperD_eq, cutS_S, S_cps, S_len', SX.S_len, SX.S_cat, S_mk, repS_S, inD_S, notInD_S, signD_S, ixD_S, cutG_none, cutG_but, cutD_G, lit_0, lit_1, lit_2, lit_3, lit_4])
    exact k
theorem isspot_any {d : PyData} {P : List SV → RV → Prop} (hs : szT d) (k : P [.fz d] (.fz (.bool (spotB d)))) : WC c_is_spot [.fz d] P := by
  unfold c_is_spot b_is_spot
  cases d with
  | tuple xs =>
    have hs' : xs.length ≤ lineN := hs
    match xs, hs', k with
    | [a, b], _, k =>
      (try simp only [↓wx_0, ↓wx_s, ↓wv_fz, ↓wv_own, ↓wv_plc, ↓kView_fz, ↓kView_own, ↓kView_ref, ↓kView_rfz, ↓wf_fz, ↓wf_own, ↓wf_plc, ↓kFix_fz, ↓kFix_rfz, ↓kFix_own, ↓kFix_ref, ↓we_lit, ↓we_slot, ↓kSlot_fz, ↓kSlot_rfz, ↓kSlot_own, ↓kSlot_ref, ↓wa_nil, ↓wa_cons, ↓kCons1_eq, ↓kCons2_eq, ↓wvs_nil, ↓wvs_cons, ↓kVs1_eq, ↓kVs2_eq, ↓we_op2, ↓kOp2a_eq, ↓kOp2b_eq, ↓kOp2c_eq, ↓kOp2d_eq, ↓we_op1, ↓kOp1a_eq, ↓kOp1b_eq, ↓we_call, ↓kCalla_eq, ↓kCallb_eq, ↓wt_asT, ↓kAsT_eq, ↓wt_and, ↓wt_or, ↓wt_not, ↓kAnd_t, ↓kAnd_f, ↓kOr_t, ↓kOr_f, ↓kNot_eq, ↓we_eT, ↓kET_eq, ↓we_if, ↓kIfE_t, ↓kIfE_f, ↓we_chain, ↓kCh1_eq, ↓kCh2_eq, ↓kCh3_eq, ↓kCh4_eq, ↓kCh5_t, ↓kCh5_f, ↓wfs_nil, ↓wfs_cons, ↓kFs1_eq, ↓kFs2_eq, ↓we_tup, ↓we_lst, ↓kTup_eq, ↓kTupb_eq, ↓kLst_eq, ↓kLstb_eq, ↓we_dict, ↓kDict_eq, ↓kDictb_nil, ↓we_dictT, ↓kDictT_eq, ↓kDictTb_2, ↓wa_pairs0, ↓wa_pairs, ↓wo_no, ↓wo_sm, ↓kSm_eq, ↓we_sl, ↓kSl1_eq, ↓kSl2_eq, ↓kSl3_eq, ↓kSl4_eq, ↓we_m0, ↓we_m1, ↓kM0_eq, ↓kM1_eq, ↓kM1b_eq, ↓kM1c_eq, ↓wg_slot, ↓kGSlot_eq, ↓wgs_nil, ↓wgs_cons, ↓kGs_eq, ↓wg_unp, ↓wi_any, ↓kIAnyA_eq, ↓kIAny_l, ↓kIAny_t, ↓kIAny_s, ↓wi_r1, ↓wi_r2, ↓kR1_eq, ↓kR2_eq, ↓kR2a_eq, ↓we_lc, ↓kLc_eq, ↓kLcE_eq, ↓kLcF_eq, ↓kLcR_eq, ↓kLcT_eq, ↓kLcB_t, ↓kLcB_f, ↓wt_yes, ↓ws_skip, ↓ws_seq, ↓kSeq_nx, ↓kSeq_rt, ↓kSeq_bk, ↓kSeq_ct, ↓ws_expr, ↓kExpr_eq, ↓ws_set, ↓kSet_eq, ↓kSetL_eq, ↓kSetV_fz, ↓kSetV_own, ↓kSetV_plc, ↓kSetP_own, ↓kSetP_ref, ↓kSetP_fz, ↓ws_asg, ↓kAsg_fz, ↓kAsgB_eq, ↓ws_ret, ↓kRet_fz, ↓kRet_own, ↓kRet_plc, ↓kRetP_own, ↓kRetP_ref, ↓ws_retN, ↓ws_if, ↓kIf_t, ↓kIf_f, ↓ws_brk, ↓ws_cnt, ↓ws_for, ↓kFor_eq, ↓kLoop_nx, ↓kLoop_ct, ↓kLoop_bk, ↓kLoop_rt, ↓kBody_eq, ↓wl_eq, ↓kOwnL_own, ↓kOwnL_ref, ↓ws_setIx, ↓kSI1_eq, ↓kSI2_eq, ↓kSI3_eq, ↓kSI4_eq, ↓kSI5_eq, ↓we_app, ↓kAp0_eq, ↓kAp1_eq, ↓kAp2_eq, ↓kAp3_eq, ↓we_user, ↓kUsr_eq, ↓kUsr1_eq, ↓kUsr2_eq, ↓kUsr3_fz, ↓kUsr3_own, ↓warg_nil, ↓warg_fz, ↓warg_own, ↓warg_plc, ↓kArg1_eq, ↓kArg2_eq, ↓kArgP_own, ↓kArgP_ref, ↓kArgP_fz, ↓kArgP_rfz, ↓wc_run, ↓kRun_rt, ↓kRun_nx, ↓kRunR_fz, ↓kRunR_own, ↓wex_nil, ↓wex_fz, ↓wex_ref, ↓wex_rfz, ↓kEx_eq, ↓we_rev, ↓kRev0_eq, ↓kRev_l, ↓wk_eq, ↓kOwnK_own, ↓kOwnK_ref, ↓ws_setKey, ↓kSK1_eq, ↓kSK2_eq, ↓kSK3_eq, ↓kSK4_s, ↓kSK4_i, ↓kSK5_eq, ↓kSK6_eq, ↓we_get1, ↓kG1_eq, ↓kG2_d, ↓kG3_eq, ↓kG4_d, ↓kG5_s, ↓kG5_i, ↓we_get2, ↓kH1_eq, ↓kH2_d, ↓kH3_eq, ↓kH3b_eq, ↓kH4_d, ↓kH5_s, ↓kH5_i, ↓kWh_t, ↓kWh_f, ↓ws_while, ↓we_ext, ↓kEx0_eq, ↓kEx1_eq, ↓kEx3_eq, ↓kJ_nx, ↓kJ_rt, ↓kJ_bk, ↓kJ_ct, ↓kIs_eq, ↓kIsE_eq, wp_some, backSVs_nil, backSVs_cons, lock_unb, lock_fz, lock_own, plain_fz, plain_own, enter_fz, enter_own, put_ownE, put_refE, back_oo, back_of, back_ro, back_rf, back_fz, back_rfz, freeze_own, freeze_ref, freeze_fz, backAt_eq, findSV_nil, findSV_nil2, findSV_plc, findSV_fz, findSV_own, apart_nil, apart_fz, apart_own, apart_plc, placed_nil, placed_fz, placed_own, placed_plc, wipeE_nil, wipeE_cons, backE_nil, backE_cons, unlocked_nil, unlocked_cons, List.set_cons_zero, List.set_cons_succ, List.getD_cons_zero, List.getD_cons_succ, List.getElem?_cons_zero, List.getElem?_cons_succ, List.map_cons, List.map_nil, List.cons_append, List.nil_append, List.replicate_succ, List.replicate_zero, List.length_cons, List.length_nil, List.all_cons, List.all_nil, Nat.reduceSub, Nat.reduceAdd, Nat.reduceLeDiff, Nat.reduceEqDiff, Nat.reduceLT, Nat.zero_add, Bool.not_true, Bool.not_false, Bool.and_true, Bool.true_and, Bool.and_self, and_true, true_and, if_true, reduceIte, reduceCtorEq, decide_true, decide_false, Bool.false_eq_true, Bool.or_false, Bool.or_true, Bool.false_or, Bool.true_or, Bool.and_false, Bool.false_and, Nat.le_refl, lineN, Nat.one_ne_zero, Nat.zero_ne_one, addD_i, subD_i, negD_i, cmpI_i, eqD_i, neD_i, eqD_s, neD_s, eqD_b, neD_b, isD_n, isD_b, isNotD_n, isNotD_b, isBool_b, isNone_n, isNone_b, isNone_i, isNone_s, isNone_l, isNone_t, isNone_d, isi_eq, lenD_l, lenD_t, absD_n, maxD_m, minD_m, intD_i, listD_l, listD_t, tupleD_l, tupleD_t, isiB, mulSD_i, divD_i, modD_i, powD_i, ixD_l, ixD_t, ixD_s, slD_l, slD_t, slD_s, lenD_s, addD_s, addD_l, addD_t, strD_i, wp_bind, wp_guard, atI_0, atI_1, atI_2, atI_3, atI_4, ixN_0, ixN_1, ixN_2, Int.reduceNeg, Int.reduceSub, Int.reduceAdd, listD_s, tupleD_s, mulSD_s, small64_eq, decide_eq_true_eq, or_true, true_or, Int.reducePow, Int.reduceToNat, Int.reduceLE, Int.reduceLT, Int.reduceMul, Int.reduceEq, Int.zero_add, Nat.reducePow, Nat.reduceMul, Int.reduceAbs, rangeD_1, rangeD_2, rangeD_3, sortedD_l, maxLD_l, minLD_l, sumLD_l, reprD_1, ixD_ds, ixD_di, inD_ds, inD_di, notInD_ds, notInD_di, dictPD_l, intsOf_nil, intsOf_cons, Option.bind_some, List.max?_cons', List.min?_cons', List.foldl_cons, List.foldl_nil, kDictb_s, kDictb_int, Int.cast_ofNat_Int, upperD_eq, cutS_S, S_cps, S_len', SX.S_len, SX.S_cat, S_mk, repS_S, inD_S, notInD_S, signD_S, ixD_S, cutG_none, cutG_but, cutD_G, lit_0, lit_1, lit_2, lit_3, lit_4])
      refine isnear_any ?_
      have e2 : spotB (.tuple [a, b]) = (nearB a && nearB b) := rfl
      rw [e2] at k
      cases ha : nearB a
      · rw [ha] at k
        (try simp only [↓wx_0, ↓wx_s, ↓wv_fz, ↓wv_own, ↓wv_plc, ↓kView_fz, ↓kView_own, ↓kView_ref, ↓kView_rfz, ↓wf_fz, ↓wf_own, ↓wf_plc, ↓kFix_fz, ↓kFix_rfz, ↓kFix_own, ↓kFix_ref, ↓we_lit, ↓we_slot, ↓kSlot_fz, ↓kSlot_rfz, ↓kSlot_own, ↓kSlot_ref, ↓wa_nil, ↓wa_cons, ↓kCons1_eq, ↓kCons2_eq, ↓wvs_nil, ↓wvs_cons, ↓kVs1_eq, ↓kVs2_eq, ↓we_op2, ↓kOp2a_eq, ↓kOp2b_eq, ↓kOp2c_eq, ↓kOp2d_eq, ↓we_op1, ↓kOp1a_eq, ↓kOp1b_eq, ↓we_call, ↓kCalla_eq, ↓kCallb_eq, ↓wt_asT, ↓kAsT_eq, ↓wt_and, ↓wt_or, ↓wt_not, ↓kAnd_t, ↓kAnd_f, ↓kOr_t, ↓kOr_f, ↓kNot_eq, ↓we_eT, ↓kET_eq, ↓we_if, ↓kIfE_t, ↓kIfE_f, ↓we_chain, ↓kCh1_eq, ↓kCh2_eq, ↓kCh3_eq, ↓kCh4_eq, ↓kCh5_t, ↓kCh5_f, ↓wfs_nil, ↓wfs_cons, ↓kFs1_eq, ↓kFs2_eq, ↓we_tup, ↓we_lst, ↓kTup_eq, ↓kTupb_eq, ↓kLst_eq, ↓kLstb_eq, ↓we_dict, ↓kDict_eq, ↓kDictb_nil, ↓we_dictT, ↓kDictT_eq, ↓kDictTb_2, ↓wa_pairs0, ↓wa_pairs, ↓wo_no, ↓wo_sm, ↓kSm_eq, ↓we_sl, ↓kSl1_eq, ↓kSl2_eq, ↓kSl3_eq, ↓kSl4_eq, ↓we_m0, ↓we_m1, ↓kM0_eq, ↓kM1_eq, ↓kM1b_eq, ↓kM1c_eq, ↓wg_slot, ↓kGSlot_eq, ↓wgs_nil, ↓wgs_cons, ↓kGs_eq, ↓wg_unp, ↓wi_any, ↓kIAnyA_eq, ↓kIAny_l, ↓kIAny_t, ↓kIAny_s, ↓wi_r1, ↓wi_r2, ↓kR1_eq, ↓kR2_eq, ↓kR2a_eq, ↓we_lc, ↓kLc_eq, ↓kLcE_eq, ↓kLcF_eq, ↓kLcR_eq, ↓kLcT_eq, ↓kLcB_t, ↓kLcB_f, ↓wt_yes, ↓ws_skip, ↓ws_seq, ↓kSeq_nx, ↓kSeq_rt, ↓kSeq_bk, ↓kSeq_ct, ↓ws_expr, ↓kExpr_eq, ↓ws_set, ↓kSet_eq, ↓kSetL_eq, ↓kSetV_fz, ↓kSetV_own, ↓kSetV_plc, ↓kSetP_own, ↓kSetP_ref, ↓kSetP_fz, ↓ws_asg, ↓kAsg_fz, ↓kAsgB_eq, ↓ws_ret, ↓kRet_fz, ↓kRet_own, ↓kRet_plc, ↓kRetP_own, ↓kRetP_ref, ↓ws_retN, ↓ws_if, ↓kIf_t, ↓kIf_f, ↓ws_brk, ↓ws_cnt, ↓ws_for, ↓kFor_eq, ↓kLoop_nx, ↓kLoop_ct, ↓kLoop_bk, ↓kLoop_rt, ↓kBody_eq, ↓wl_eq, ↓kOwnL_own, ↓kOwnL_ref, ↓ws_setIx, ↓kSI1_eq, ↓kSI2_eq, ↓kSI3_eq, ↓kSI4_eq, ↓kSI5_eq, ↓we_app, ↓kAp0_eq, ↓kAp1_eq, ↓kAp2_eq, ↓kAp3_eq, ↓we_user, ↓kUsr_eq, ↓kUsr1_eq, ↓kUsr2_eq, ↓kUsr3_fz, ↓kUsr3_own, ↓warg_nil, ↓warg_fz, ↓warg_own, ↓warg_plc, ↓kArg1_eq, ↓kArg2_eq, ↓kArgP_own, ↓kArgP_ref, ↓kArgP_fz, ↓kArgP_rfz, ↓wc_run, ↓kRun_rt, ↓kRun_nx, ↓kRunR_fz, ↓kRunR_own, ↓wex_nil, ↓wex_fz, ↓wex_ref, ↓wex_rfz, ↓kEx_eq, ↓we_rev, ↓kRev0_eq, ↓kRev_l, ↓wk_eq, ↓kOwnK_own, ↓kOwnK_ref, ↓ws_setKey, ↓kSK1_eq, ↓kSK2_eq, ↓kSK3_eq, ↓kSK4_s, ↓kSK4_i, ↓kSK5_eq, ↓kSK6_eq, ↓we_get1, ↓kG1_eq, ↓kG2_d, ↓kG3_eq, ↓kG4_d, ↓kG5_s, ↓kG5_i, ↓we_get2, ↓kH1_eq, ↓kH2_d, ↓kH3_eq, ↓kH3b_eq, ↓kH4_d, ↓kH5_s, ↓kH5_i, ↓kWh_t, ↓kWh_f, ↓ws_while, ↓we_ext, ↓kEx0_eq, ↓kEx1_eq, ↓kEx3_eq, ↓kJ_nx, ↓kJ_rt, ↓kJ_bk, ↓kJ_ct, ↓kIs_eq, ↓kIsE_eq, wp_some, backSVs_nil, backSVs_cons, lock_unb, lock_fz, lock_own, plain_fz, plain_own, enter_fz, enter_own, put_ownE, put_refE, back_oo, back_of, back_ro, back_rf, back_fz, back_rfz, freeze_own, freeze_ref, freeze_fz, backAt_eq, findSV_nil, findSV_nil2, findSV_plc, findSV_fz, findSV_own, apart_nil, apart_fz, apart_own, apart_plc, placed_nil, placed_fz, placed_own, placed_plc, wipeE_nil, wipeE_cons, backE_nil, backE_cons, unlocked_nil, unlocked_cons, List.set_cons_zero, List.set_cons_succ, List.getD_cons_zero, List.getD_cons_succ, List.getElem?_cons_zero, List.getElem?_cons_succ, List.map_cons, List.map_nil, List.cons_append, List.nil_append, List.replicate_succ, List.replicate_zero, List.length_cons, List.length_nil, List.all_cons, List.all_nil, Nat.reduceSub, Nat.reduceAdd, Nat.reduceLeDiff, Nat.reduceEqDiff, Nat.reduceLT, Nat.zero_add, Bool.not_true, Bool.not_false, Bool.and_true, Bool.true_and, Bool.and_self, and_true, true_and, if_true, reduceIte, reduceCtorEq, decide_true, decide_false, Bool.false_eq_true, Bool.or_false, Bool.or_true, Bool.false_or, Bool.true_or, Bool.and_false, Bool.false_and, Nat.le_refl, lineN, Nat.one_ne_zero, Nat.zero_ne_one, addD_i, subD_i, negD_i, cmpI_i, eqD_i, neD_i, eqD_s, neD_s, eqD_b, neD_b, isD_n, isD_b, isNotD_n, isNotD_b, isBool_b, isNone_n, isNone_b, isNone_i, isNone_s, isNone_l, isNone_t, isNone_d, isi_eq, lenD_l, lenD_t, absD_n, maxD_m, minD_m, intD_i, listD_l, listD_t, tupleD_l, tupleD_t, isiB, mulSD_i, divD_i, modD_i, powD_i, ixD_l, ixD_t, ixD_s, slD_l, slD_t, slD_s, lenD_s, addD_s, addD_l, addD_t, strD_i, wp_bind, wp_guard, atI_0, atI_1, atI_2, atI_3, atI_4, ixN_0, ixN_1, ixN_2, Int.reduceNeg, Int.reduceSub, Int.reduceAdd, listD_s, tupleD_s, mulSD_s, small64_eq, decide_eq_true_eq, or_true, true_or, Int.reducePow, Int.reduceToNat, Int.reduceLE, Int.reduceLT, Int.reduceMul, Int.reduceEq, Int.zero_add, Nat.reducePow, Nat.reduceMul, Int.reduceAbs, rangeD_1, rangeD_2, rangeD_3, sortedD_l, maxLD_l, minLD_l, sumLD_l, reprD_1, ixD_ds, ixD_di, inD_ds, inD_di, notInD_ds, notInD_di, dictPD_l, intsOf_nil, intsOf_cons, Option.bind_some, List.max?_cons', List.min?_cons', List.foldl_cons, List.foldl_nil, kDictb_s, kDictb_int, Int.cast_ofNat_Int, upperD_eq, cutS_S, S_cps, S_len', SX.S_len, SX.S_cat, S_mk, repS_S, inD_S, notInD_S, signD_S, ixD_S, cutG_none, cutG_but, cutD_G, lit_0, lit_1, lit_2, lit_3, lit_4])
        exact k
      · rw [ha] at k
        (try simp only [↓wx_0, ↓wx_s, ↓wv_fz, ↓wv_own, ↓wv_plc, ↓kView_fz, ↓kView_own, ↓kView_ref, ↓kView_rfz, ↓wf_fz, ↓wf_own, ↓wf_plc, ↓kFix_fz, ↓kFix_rfz, ↓kFix_own, ↓kFix_ref, ↓we_lit, ↓we_slot, ↓kSlot_fz, ↓kSlot_rfz, ↓kSlot_own, ↓kSlot_ref, ↓wa_nil, ↓wa_cons, ↓kCons1_eq, ↓kCons2_eq, ↓wvs_nil, ↓wvs_cons, ↓kVs1_eq, ↓kVs2_eq, ↓we_op2, ↓kOp2a_eq, ↓kOp2b_eq, ↓kOp2c_eq, ↓kOp2d_eq, ↓we_op1, ↓kOp1a_eq, ↓kOp1b_eq, ↓we_call, ↓kCalla_eq, ↓kCallb_eq, ↓wt_asT, ↓kAsT_eq, ↓wt_and, ↓wt_or, ↓wt_not, ↓kAnd_t, ↓kAnd_f, ↓kOr_t, ↓kOr_f, ↓kNot_eq, ↓we_eT, ↓kET_eq, ↓we_if, ↓kIfE_t, ↓kIfE_f, ↓we_chain, ↓kCh1_eq, ↓kCh2_eq, ↓kCh3_eq, ↓kCh4_eq, ↓kCh5_t, ↓kCh5_f, ↓wfs_nil, ↓wfs_cons, ↓kFs1_eq, ↓kFs2_eq, ↓we_tup, ↓we_lst, ↓kTup_eq, ↓kTupb_eq, ↓kLst_eq, ↓kLstb_eq, ↓we_dict, ↓kDict_eq, ↓kDictb_nil, ↓we_dictT, ↓kDictT_eq, ↓kDictTb_2, ↓wa_pairs0, ↓wa_pairs, ↓wo_no, ↓wo_sm, ↓kSm_eq, ↓we_sl, ↓kSl1_eq, ↓kSl2_eq, ↓kSl3_eq, ↓kSl4_eq, ↓we_m0, ↓we_m1, ↓kM0_eq, ↓kM1_eq, ↓kM1b_eq, ↓kM1c_eq, ↓wg_slot, ↓kGSlot_eq, ↓wgs_nil, ↓wgs_cons, ↓kGs_eq, ↓wg_unp, ↓wi_any, ↓kIAnyA_eq, ↓kIAny_l, ↓kIAny_t, ↓kIAny_s, ↓wi_r1, ↓wi_r2, ↓kR1_eq, ↓kR2_eq, ↓kR2a_eq, ↓we_lc, ↓kLc_eq, ↓kLcE_eq, ↓kLcF_eq, ↓kLcR_eq, ↓kLcT_eq, ↓kLcB_t, ↓kLcB_f, ↓wt_yes, ↓ws_skip, ↓ws_seq, ↓kSeq_nx, ↓kSeq_rt, ↓kSeq_bk, ↓kSeq_ct, ↓ws_expr, ↓kExpr_eq, ↓ws_set, ↓kSet_eq, ↓kSetL_eq, ↓kSetV_fz, ↓kSetV_own, ↓kSetV_plc, ↓kSetP_own, ↓kSetP_ref, ↓kSetP_fz, ↓ws_asg, ↓kAsg_fz, ↓kAsgB_eq, ↓ws_ret, ↓kRet_fz, ↓kRet_own, ↓kRet_plc, ↓kRetP_own, ↓kRetP_ref, ↓ws_retN, ↓ws_if, ↓kIf_t, ↓kIf_f, ↓ws_brk, ↓ws_cnt, ↓ws_for, ↓kFor_eq, ↓kLoop_nx, ↓kLoop_ct, ↓kLoop_bk, ↓kLoop_rt, ↓kBody_eq, ↓wl_eq, ↓kOwnL_own, ↓kOwnL_ref, ↓ws_setIx, ↓kSI1_eq, ↓kSI2_eq, ↓kSI3_eq, ↓kSI4_eq, ↓kSI5_eq, ↓we_app, ↓kAp0_eq, ↓kAp1_eq, ↓kAp2_eq, ↓kAp3_eq, ↓we_user, ↓kUsr_eq, ↓kUsr1_eq, ↓kUsr2_eq, ↓kUsr3_fz, ↓kUsr3_own, ↓warg_nil, ↓warg_fz, ↓warg_own, ↓warg_plc, ↓kArg1_eq, ↓kArg2_eq, ↓kArgP_own, ↓kArgP_ref, ↓kArgP_fz, ↓kArgP_rfz, ↓wc_run, ↓kRun_rt, ↓kRun_nx, ↓kRunR_fz, ↓kRunR_own, ↓wex_nil, ↓wex_fz, ↓wex_ref, ↓wex_rfz, ↓kEx_eq, ↓we_rev, ↓kRev0_eq, ↓kRev_l, ↓wk_eq, ↓kOwnK_own, ↓kOwnK_ref, ↓ws_setKey, ↓kSK1_eq, ↓kSK2_eq, ↓kSK3_eq, ↓kSK4_s, ↓kSK4_i, ↓kSK5_eq, ↓kSK6_eq, ↓we_get1, ↓kG1_eq, ↓kG2_d, ↓kG3_eq, ↓kG4_d, ↓kG5_s, ↓kG5_i, ↓we_get2, ↓kH1_eq, ↓kH2_d, ↓kH3_eq, ↓kH3b_eq, ↓kH4_d, ↓kH5_s, ↓kH5_i, ↓kWh_t, ↓kWh_f, ↓ws_while, ↓we_ext, ↓kEx0_eq, ↓kEx1_eq, ↓kEx3_eq, ↓kJ_nx, ↓kJ_rt, ↓kJ_bk, ↓kJ_ct, ↓kIs_eq, ↓kIsE_eq, wp_some, backSVs_nil, backSVs_cons, lock_unb, lock_fz, lock_own, plain_fz, plain_own, enter_fz, enter_own, put_ownE, put_refE, back_oo, back_of, back_ro, back_rf, back_fz, back_rfz, freeze_own, freeze_ref, freeze_fz, backAt_eq, findSV_nil, findSV_nil2, findSV_plc, findSV_fz, findSV_own, apart_nil, apart_fz, apart_own, apart_plc, placed_nil, placed_fz, placed_own, placed_plc, wipeE_nil, wipeE_cons, backE_nil, backE_cons, unlocked_nil, unlocked_cons, List.set_cons_zero, List.set_cons_succ, List.getD_cons_zero, List.getD_cons_succ, List.getElem?_cons_zero, List.getElem?_cons_succ, List.map_cons, List.map_nil, List.cons_append, List.nil_append, List.replicate_succ, List.replicate_zero, List.length_cons, List.length_nil, List.all_cons, List.all_nil, Nat.reduceSub, Nat.reduceAdd, Nat.reduceLeDiff, Nat.reduceEqDiff, Nat.reduceLT, Nat.zero_add, Bool.not_true, Bool.not_false, Bool.and_true, Bool.true_and, Bool.and_self, and_true, true_and, if_true, reduceIte, reduceCtorEq, decide_true, decide_false, Bool.false_eq_true, Bool.or_false, Bool.or_true, Bool.false_or, Bool.true_or, Bool.and_false, Bool.false_and, Nat.le_refl, lineN, Nat.one_ne_zero, Nat.zero_ne_one, addD_i, subD_i, negD_i, cmpI_i, eqD_i, neD_i, eqD_s, neD_s, eqD_b, neD_b, isD_n, isD_b, isNotD_n, isNotD_b, isBool_b, isNone_n, isNone_b, isNone_i, isNone_s, isNone_l, isNone_t, isNone_d, isi_eq, lenD_l, lenD_t, absD_n, maxD_m, minD_m, intD_i, listD_l, listD_t, tupleD_l, tupleD_t, isiB, mulSD_i, divD_i, modD_i, powD_i, ixD_l, ixD_t, ixD_s, slD_l, slD_t, slD_s, lenD_s, addD_s, addD_l, addD_t, strD_i, wp_bind, wp_guard, atI_0, atI_1, atI_2, atI_3, atI_4, ixN_0, ixN_1, ixN_2, Int.reduceNeg, Int.reduceSub, Int.reduceAdd, listD_s, tupleD_s, mulSD_s, small64_eq, decide_eq_true_eq, or_true, true_or, Int.reducePow, Int.reduceToNat, Int.reduceLE, Int.reduceLT, Int.reduceMul, Int.reduceEq, Int.zero_add, Nat.reducePow, Nat.reduceMul, Int.reduceAbs, rangeD_1, rangeD_2, rangeD_3, sortedD_l, maxLD_l, minLD_l, sumLD_l, reprD_1, ixD_ds, ixD_di, inD_ds, inD_di, notInD_ds, notInD_di, dictPD_l, intsOf_nil, intsOf_cons, Option.bind_some, List.max?_cons', List.min?_cons', List.foldl_cons, List.foldl_nil, kDictb_s, kDictb_int, Int.cast_ofNat_Int, upperD_eq, cutS_S, S_cps, S_len', SX.S_len, SX.S_cat, S_mk, repS_S, inD_S, notInD_S, signD_S, ixD_S, cutG_none, cutG_but, cutD_G, lit_0, lit_1, lit_2, lit_3, lit_4])
        refine isnear_any ?_
        (try simp only [↓wx_0, ↓wx_s, ↓wv_fz, ↓wv_own, ↓wv_plc, ↓kView_fz, ↓kView_own, ↓kView_ref, ↓kView_rfz, ↓wf_fz, ↓wf_own, ↓wf_plc, ↓kFix_fz, ↓kFix_rfz, ↓kFix_own, ↓kFix_ref, ↓we_lit, ↓we_slot, ↓kSlot_fz, ↓kSlot_rfz, ↓kSlot_own, ↓kSlot_ref, ↓wa_nil, ↓wa_cons, ↓kCons1_eq, ↓kCons2_eq, ↓wvs_nil, ↓wvs_cons, ↓kVs1_eq, ↓kVs2_eq, ↓we_op2, ↓kOp2a_eq, ↓kOp2b_eq, ↓kOp2c_eq, ↓kOp2d_eq, ↓we_op1, ↓kOp1a_eq, ↓kOp1b_eq, ↓we_call, ↓kCalla_eq, ↓kCallb_eq, ↓wt_asT, ↓kAsT_eq, ↓wt_and, ↓wt_or, ↓wt_not, ↓kAnd_t, ↓kAnd_f, ↓kOr_t, ↓kOr_f, ↓kNot_eq, ↓we_eT, ↓kET_eq, ↓we_if, ↓kIfE_t, ↓kIfE_f, ↓we_chain, ↓kCh1_eq, ↓kCh2_eq, ↓kCh3_eq, ↓kCh4_eq, ↓kCh5_t, ↓kCh5_f, ↓wfs_nil, ↓wfs_cons, ↓kFs1_eq, ↓kFs2_eq, ↓we_tup, ↓we_lst, ↓kTup_eq, ↓kTupb_eq, ↓kLst_eq, ↓kLstb_eq, ↓we_dict, ↓kDict_eq, ↓kDictb_nil, ↓we_dictT, ↓kDictT_eq, ↓kDictTb_2, ↓wa_pairs0, ↓wa_pairs, ↓wo_no, ↓wo_sm, ↓kSm_eq, ↓we_sl, ↓kSl1_eq, ↓kSl2_eq, ↓kSl3_eq, ↓kSl4_eq, ↓we_m0, ↓we_m1, ↓kM0_eq, ↓kM1_eq, ↓kM1b_eq, ↓kM1c_eq, ↓wg_slot, ↓kGSlot_eq, ↓wgs_nil, ↓wgs_cons, ↓kGs_eq, ↓wg_unp, ↓wi_any, ↓kIAnyA_eq, ↓kIAny_l, ↓kIAny_t, ↓kIAny_s, ↓wi_r1, ↓wi_r2, ↓kR1_eq, ↓kR2_eq, ↓kR2a_eq, ↓we_lc, ↓kLc_eq, ↓kLcE_eq, ↓kLcF_eq, ↓kLcR_eq, ↓kLcT_eq, ↓kLcB_t, ↓kLcB_f, ↓wt_yes, ↓ws_skip, ↓ws_seq, ↓kSeq_nx, ↓kSeq_rt, ↓kSeq_bk, ↓kSeq_ct, ↓ws_expr, ↓kExpr_eq, ↓ws_set, ↓kSet_eq, ↓kSetL_eq, ↓kSetV_fz, ↓kSetV_own, ↓kSetV_plc, ↓kSetP_own, ↓kSetP_ref, ↓kSetP_fz, ↓ws_asg, ↓kAsg_fz, ↓kAsgB_eq, ↓ws_ret, ↓kRet_fz, ↓kRet_own, ↓kRet_plc, ↓kRetP_own, ↓kRetP_ref, ↓ws_retN, ↓ws_if, ↓kIf_t, ↓kIf_f, ↓ws_brk, ↓ws_cnt, ↓ws_for, ↓kFor_eq, ↓kLoop_nx, ↓kLoop_ct, ↓kLoop_bk, ↓kLoop_rt, ↓kBody_eq, ↓wl_eq, ↓kOwnL_own, ↓kOwnL_ref, ↓ws_setIx, ↓kSI1_eq, ↓kSI2_eq, ↓kSI3_eq, ↓kSI4_eq, ↓kSI5_eq, ↓we_app, ↓kAp0_eq, ↓kAp1_eq, ↓kAp2_eq, ↓kAp3_eq, ↓we_user, ↓kUsr_eq, ↓kUsr1_eq, ↓kUsr2_eq, ↓kUsr3_fz, ↓kUsr3_own, ↓warg_nil, ↓warg_fz, ↓warg_own, ↓warg_plc, ↓kArg1_eq, ↓kArg2_eq, ↓kArgP_own, ↓kArgP_ref, ↓kArgP_fz, ↓kArgP_rfz, ↓wc_run, ↓kRun_rt, ↓kRun_nx, ↓kRunR_fz, ↓kRunR_own, ↓wex_nil, ↓wex_fz, ↓wex_ref, ↓wex_rfz, ↓kEx_eq, ↓we_rev, ↓kRev0_eq, ↓kRev_l, ↓wk_eq, ↓kOwnK_own, ↓kOwnK_ref, ↓ws_setKey, ↓kSK1_eq, ↓kSK2_eq, ↓kSK3_eq, ↓kSK4_s, ↓kSK4_i, ↓kSK5_eq, ↓kSK6_eq, ↓we_get1, ↓kG1_eq, ↓kG2_d, ↓kG3_eq, ↓kG4_d, ↓kG5_s, ↓kG5_i, ↓we_get2, ↓kH1_eq, ↓kH2_d, ↓kH3_eq, ↓kH3b_eq, ↓kH4_d, ↓kH5_s, ↓kH5_i, ↓kWh_t, ↓kWh_f, ↓ws_while, ↓we_ext, ↓kEx0_eq, ↓kEx1_eq, ↓kEx3_eq, ↓kJ_nx, ↓kJ_rt, ↓kJ_bk, ↓kJ_ct, ↓kIs_eq, ↓kIsE_eq, wp_some, backSVs_nil, backSVs_cons, lock_unb, lock_fz, lock_own, plain_fz, plain_own, enter_fz, enter_own, put_ownE, put_refE, back_oo, back_of, back_ro, back_rf, back_fz, back_rfz, freeze_own, freeze_ref, freeze_fz, backAt_eq, findSV_nil, findSV_nil2, findSV_plc, findSV_fz, findSV_own, apart_nil, apart_fz, apart_own, apart_plc, placed_nil, placed_fz, placed_own, placed_plc, wipeE_nil, wipeE_cons, backE_nil, backE_cons, unlocked_nil, unlocked_cons, List.set_cons_zero, List.set_cons_succ, List.getD_cons_zero, List.getD_cons_succ, List.getElem?_cons_zero, List.getElem?_cons_succ, List.map_cons, List.map_nil, List.cons_append, List.nil_append, List.replicate_succ, List.replicate_zero, List.length_cons, List.length_nil, List.all_cons, List.all_nil, Nat.reduceSub, Nat.reduceAdd, Nat.reduceLeDiff, Nat.reduceEqDiff, Nat.reduceLT, Nat.zero_add, Bool.not_true, Bool.not_false, Bool.and_true, Bool.true_and, Bool.and_self, and_true, true_and, if_true, reduceIte, reduceCtorEq, decide_true, decide_false, Bool.false_eq_true, Bool.or_false, Bool.or_true, Bool.false_or, Bool.true_or, Bool.and_false, Bool.false_and, Nat.le_refl, lineN, Nat.one_ne_zero, Nat.zero_ne_one, addD_i, subD_i, negD_i, cmpI_i, eqD_i, neD_i, eqD_s, neD_s, eqD_b, neD_b, isD_n, isD_b, isNotD_n, isNotD_b, isBool_b, isNone_n, isNone_b, isNone_i, isNone_s, isNone_l, isNone_t, isNone_d, isi_eq, lenD_l, lenD_t, absD_n, maxD_m, minD_m, intD_i, listD_l, listD_t, tupleD_l, tupleD_t, isiB, mulSD_i, divD_i, modD_i, powD_i, ixD_l, ixD_t, ixD_s, slD_l, slD_t, slD_s, lenD_s, addD_s, addD_l, addD_t, strD_i, wp_bind, wp_guard, atI_0, atI_1, atI_2, atI_3, atI_4, ixN_0, ixN_1, ixN_2, Int.reduceNeg, Int.reduceSub, Int.reduceAdd, listD_s, tupleD_s, mulSD_s, small64_eq, decide_eq_true_eq, or_true, true_or, Int.reducePow, Int.reduceToNat, Int.reduceLE, Int.reduceLT, Int.reduceMul, Int.reduceEq, Int.zero_add, Nat.reducePow, Nat.reduceMul, Int.reduceAbs, rangeD_1, rangeD_2, rangeD_3, sortedD_l, maxLD_l, minLD_l, sumLD_l, reprD_1, ixD_ds, ixD_di, inD_ds, inD_di, notInD_ds, notInD_di, dictPD_l, intsOf_nil, intsOf_cons, Option.bind_some, List.max?_cons', List.min?_cons', List.foldl_cons, List.foldl_nil, kDictb_s, kDictb_int, Int.cast_ofNat_Int, upperD_eq, cutS_S, S_cps, S_len', SX.S_len, SX.S_cat, S_mk, repS_S, inD_S, notInD_S, signD_S, ixD_S, cutG_none, cutG_but, cutD_G, lit_0, lit_1, lit_2, lit_3, lit_4])
        exact k
    | [], _, k =>
      (try simp only [↓wx_0, ↓wx_s, ↓wv_fz, ↓wv_own, ↓wv_plc, ↓kView_fz, ↓kView_own, ↓kView_ref, ↓kView_rfz, ↓wf_fz, ↓wf_own, ↓wf_plc, ↓kFix_fz, ↓kFix_rfz, ↓kFix_own, ↓kFix_ref, ↓we_lit, ↓we_slot, ↓kSlot_fz, ↓kSlot_rfz, ↓kSlot_own, ↓kSlot_ref, ↓wa_nil, ↓wa_cons, ↓kCons1_eq, ↓kCons2_eq, ↓wvs_nil, ↓wvs_cons, ↓kVs1_eq, ↓kVs2_eq, ↓we_op2, ↓kOp2a_eq, ↓kOp2b_eq, ↓kOp2c_eq, ↓kOp2d_eq, ↓we_op1, ↓kOp1a_eq, ↓kOp1b_eq, ↓we_call, ↓kCalla_eq, ↓kCallb_eq, ↓wt_asT, ↓kAsT_eq, ↓wt_and, ↓wt_or, ↓wt_not, ↓kAnd_t, ↓kAnd_f, ↓kOr_t, ↓kOr_f, ↓kNot_eq, ↓we_eT, ↓kET_eq, ↓we_if, ↓kIfE_t, ↓kIfE_f, ↓we_chain, ↓kCh1_eq, ↓kCh2_eq, ↓kCh3_eq, ↓kCh4_eq, ↓kCh5_t, ↓kCh5_f, ↓wfs_nil, ↓wfs_cons, ↓kFs1_eq, ↓kFs2_eq, ↓we_tup, ↓we_lst, ↓kTup_eq, ↓kTupb_eq, ↓kLst_eq, ↓kLstb_eq, ↓we_dict, ↓kDict_eq, ↓kDictb_nil, ↓we_dictT, ↓kDictT_eq, ↓kDictTb_2, ↓wa_pairs0, ↓wa_pairs, ↓wo_no, ↓wo_sm, ↓kSm_eq, ↓we_sl, ↓kSl1_eq, ↓kSl2_eq, ↓kSl3_eq, ↓kSl4_eq, ↓we_m0, ↓we_m1, ↓kM0_eq, ↓kM1_eq, ↓kM1b_eq, ↓kM1c_eq, ↓wg_slot, ↓kGSlot_eq, ↓wgs_nil, ↓wgs_cons, ↓kGs_eq, ↓wg_unp, ↓wi_any, ↓kIAnyA_eq, ↓kIAny_l, ↓kIAny_t, ↓kIAny_s, ↓wi_r1, ↓wi_r2, ↓kR1_eq, ↓kR2_eq, ↓kR2a_eq, ↓we_lc, ↓kLc_eq, ↓kLcE_eq, ↓kLcF_eq, ↓kLcR_eq, ↓kLcT_eq, ↓kLcB_t, ↓kLcB_f, ↓wt_yes, ↓ws_skip, ↓ws_seq, ↓kSeq_nx, ↓kSeq_rt, ↓kSeq_bk, ↓kSeq_ct, ↓ws_expr, ↓kExpr_eq, ↓ws_set, ↓kSet_eq, ↓kSetL_eq, ↓kSetV_fz, ↓kSetV_own, ↓kSetV_plc, ↓kSetP_own, ↓kSetP_ref, ↓kSetP_fz, ↓ws_asg, ↓kAsg_fz, ↓kAsgB_eq, ↓ws_ret, ↓kRet_fz, ↓kRet_own, ↓kRet_plc, ↓kRetP_own, ↓kRetP_ref, ↓ws_retN, ↓ws_if, ↓kIf_t, ↓kIf_f, ↓ws_brk, ↓ws_cnt, ↓ws_for, ↓kFor_eq, ↓kLoop_nx, ↓kLoop_ct, ↓kLoop_bk, ↓kLoop_rt, ↓kBody_eq, ↓wl_eq, ↓kOwnL_own, ↓kOwnL_ref, ↓ws_setIx, ↓kSI1_eq, ↓kSI2_eq, ↓kSI3_eq, ↓kSI4_eq, ↓kSI5_eq, ↓we_app, ↓kAp0_eq, ↓kAp1_eq, ↓kAp2_eq, ↓kAp3_eq, ↓we_user, ↓kUsr_eq, ↓kUsr1_eq, ↓kUsr2_eq, ↓kUsr3_fz, ↓kUsr3_own, ↓warg_nil, ↓warg_fz, ↓warg_own, ↓warg_plc, ↓kArg1_eq, ↓kArg2_eq, ↓kArgP_own, ↓kArgP_ref, ↓kArgP_fz, ↓kArgP_rfz, ↓wc_run, ↓kRun_rt, ↓kRun_nx, ↓kRunR_fz, ↓kRunR_own, ↓wex_nil, ↓wex_fz, ↓wex_ref, ↓wex_rfz, ↓kEx_eq, ↓we_rev, ↓kRev0_eq, ↓kRev_l, ↓wk_eq, ↓kOwnK_own, ↓kOwnK_ref, ↓ws_setKey, ↓kSK1_eq, ↓kSK2_eq, ↓kSK3_eq, ↓kSK4_s, ↓kSK4_i, ↓kSK5_eq, ↓kSK6_eq, ↓we_get1, ↓kG1_eq, ↓kG2_d, ↓kG3_eq, ↓kG4_d, ↓kG5_s, ↓kG5_i, ↓we_get2, ↓kH1_eq, ↓kH2_d, ↓kH3_eq, ↓kH3b_eq, ↓kH4_d, ↓kH5_s, ↓kH5_i, ↓kWh_t, ↓kWh_f, ↓ws_while, ↓we_ext, ↓kEx0_eq, ↓kEx1_eq, ↓kEx3_eq, ↓kJ_nx, ↓kJ_rt, ↓kJ_bk, ↓kJ_ct, ↓kIs_eq, ↓kIsE_eq, wp_some, backSVs_nil, backSVs_cons, lock_unb, lock_fz, lock_own, plain_fz, plain_own, enter_fz, enter_own, put_ownE, put_refE, back_oo, back_of, back_ro, back_rf, back_fz, back_rfz, freeze_own, freeze_ref, freeze_fz, backAt_eq, findSV_nil, findSV_nil2, findSV_plc, findSV_fz, findSV_own, apart_nil, apart_fz, apart_own, apart_plc, placed_nil, placed_fz, placed_own, placed_plc, wipeE_nil, wipeE_cons, backE_nil, backE_cons, unlocked_nil, unlocked_cons, List.set_cons_zero, List.set_cons_succ, List.getD_cons_zero, List.getD_cons_succ, List.getElem?_cons_zero, List.getElem?_cons_succ, List.map_cons, List.map_nil, List.cons_append, List.nil_append, List.replicate_succ, List.replicate_zero, List.length_cons, List.length_nil, List.all_cons, List.all_nil, Nat.reduceSub, Nat.reduceAdd, Nat.reduceLeDiff, Nat.reduceEqDiff, Nat.reduceLT, Nat.zero_add, Bool.not_true, Bool.not_false, Bool.and_true, Bool.true_and, Bool.and_self, and_true, true_and, if_true, reduceIte, reduceCtorEq, decide_true, decide_false, Bool.false_eq_true, Bool.or_false, Bool.or_true, Bool.false_or, Bool.true_or, Bool.and_false, Bool.false_and, Nat.le_refl, lineN, Nat.one_ne_zero, Nat.zero_ne_one, addD_i, subD_i, negD_i, cmpI_i, eqD_i, neD_i, eqD_s, neD_s, eqD_b, neD_b, isD_n, isD_b, isNotD_n, isNotD_b, isBool_b, isNone_n, isNone_b, isNone_i, isNone_s, isNone_l, isNone_t, isNone_d, isi_eq, lenD_l, lenD_t, absD_n, maxD_m, minD_m, intD_i, listD_l, listD_t, tupleD_l, tupleD_t, isiB, mulSD_i, divD_i, modD_i, powD_i, ixD_l, ixD_t, ixD_s, slD_l, slD_t, slD_s, lenD_s, addD_s, addD_l, addD_t, strD_i, wp_bind, wp_guard, atI_0, atI_1, atI_2, atI_3, atI_4, ixN_0, ixN_1, ixN_2, Int.reduceNeg, Int.reduceSub, Int.reduceAdd, listD_s, tupleD_s, mulSD_s, small64_eq, decide_eq_true_eq, or_true, true_or, Int.reducePow, Int.reduceToNat, Int.reduceLE, Int.reduceLT, Int.reduceMul, Int.reduceEq, Int.zero_add, Nat.reducePow, Nat.reduceMul, Int.reduceAbs, rangeD_1, rangeD_2, rangeD_3, sortedD_l, maxLD_l, minLD_l, sumLD_l, reprD_1, ixD_ds, ixD_di, inD_ds, inD_di, notInD_ds, notInD_di, dictPD_l, intsOf_nil, intsOf_cons, Option.bind_some, List.max?_cons', List.min?_cons', List.foldl_cons, List.foldl_nil, kDictb_s, kDictb_int, Int.cast_ofNat_Int, upperD_eq, cutS_S, S_cps, S_len', SX.S_len, SX.S_cat, S_mk, repS_S, inD_S, notInD_S, signD_S, ixD_S, cutG_none, cutG_but, cutD_G, lit_0, lit_1, lit_2, lit_3, lit_4])
      exact k
    | [a], _, k =>
      (try simp only [↓wx_0, ↓wx_s, ↓wv_fz, ↓wv_own, ↓wv_plc, ↓kView_fz, ↓kView_own, ↓kView_ref, ↓kView_rfz, ↓wf_fz, ↓wf_own, ↓wf_plc, ↓kFix_fz, ↓kFix_rfz, ↓kFix_own, ↓kFix_ref, ↓we_lit, ↓we_slot, ↓kSlot_fz, ↓kSlot_rfz, ↓kSlot_own, ↓kSlot_ref, ↓wa_nil, ↓wa_cons, ↓kCons1_eq, ↓kCons2_eq, ↓wvs_nil, ↓wvs_cons, ↓kVs1_eq, ↓kVs2_eq, ↓we_op2, ↓kOp2a_eq, ↓kOp2b_eq, ↓kOp2c_eq, ↓kOp2d_eq, ↓we_op1, ↓kOp1a_eq, ↓kOp1b_eq, ↓we_call, ↓kCalla_eq, ↓kCallb_eq, ↓wt_asT, ↓kAsT_eq, ↓wt_and, ↓wt_or, ↓wt_not, ↓kAnd_t, ↓kAnd_f, ↓kOr_t, ↓kOr_f, ↓kNot_eq, ↓we_eT, ↓kET_eq, ↓we_if, ↓kIfE_t, ↓kIfE_f, ↓we_chain, ↓kCh1_eq, ↓kCh2_eq, ↓kCh3_eq, ↓kCh4_eq, ↓kCh5_t, ↓kCh5_f, ↓wfs_nil, ↓wfs_cons, ↓kFs1_eq, ↓kFs2_eq, ↓we_tup, ↓we_lst, ↓kTup_eq, ↓kTupb_eq, ↓kLst_eq, ↓kLstb_eq, ↓we_dict, ↓kDict_eq, ↓kDictb_nil, ↓we_dictT, ↓kDictT_eq, ↓kDictTb_2, ↓wa_pairs0, ↓wa_pairs, ↓wo_no, ↓wo_sm, ↓kSm_eq, ↓we_sl, ↓kSl1_eq, ↓kSl2_eq, ↓kSl3_eq, ↓kSl4_eq, ↓we_m0, ↓we_m1, ↓kM0_eq, ↓kM1_eq, ↓kM1b_eq, ↓kM1c_eq, ↓wg_slot, ↓kGSlot_eq, ↓wgs_nil, ↓wgs_cons, ↓kGs_eq, ↓wg_unp, ↓wi_any, ↓kIAnyA_eq, ↓kIAny_l, ↓kIAny_t, ↓kIAny_s, ↓wi_r1, ↓wi_r2, ↓kR1_eq, ↓kR2_eq, ↓kR2a_eq, ↓we_lc, ↓kLc_eq, ↓kLcE_eq, ↓kLcF_eq, ↓kLcR_eq, ↓kLcT_eq, ↓kLcB_t, ↓kLcB_f, ↓wt_yes, ↓ws_skip, ↓ws_seq, ↓kSeq_nx, ↓kSeq_rt, ↓kSeq_bk, ↓kSeq_ct, ↓ws_expr, ↓kExpr_eq, ↓ws_set, ↓kSet_eq, ↓kSetL_eq, ↓kSetV_fz, ↓kSetV_own, ↓kSetV_plc, ↓kSetP_own, ↓kSetP_ref, ↓kSetP_fz, ↓ws_asg, ↓kAsg_fz, ↓kAsgB_eq, ↓ws_ret, ↓kRet_fz, ↓kRet_own, ↓kRet_plc, ↓kRetP_own, ↓kRetP_ref, ↓ws_retN, ↓ws_if, ↓kIf_t, ↓kIf_f, ↓ws_brk, ↓ws_cnt, ↓ws_for, ↓kFor_eq, ↓kLoop_nx, ↓kLoop_ct, ↓kLoop_bk, ↓kLoop_rt, ↓kBody_eq, ↓wl_eq, ↓kOwnL_own, ↓kOwnL_ref, ↓ws_setIx, ↓kSI1_eq, ↓kSI2_eq, ↓kSI3_eq, ↓kSI4_eq, ↓kSI5_eq, ↓we_app, ↓kAp0_eq, ↓kAp1_eq, ↓kAp2_eq, ↓kAp3_eq, ↓we_user, ↓kUsr_eq, ↓kUsr1_eq, ↓kUsr2_eq, ↓kUsr3_fz, ↓kUsr3_own, ↓warg_nil, ↓warg_fz, ↓warg_own, ↓warg_plc, ↓kArg1_eq, ↓kArg2_eq, ↓kArgP_own, ↓kArgP_ref, ↓kArgP_fz, ↓kArgP_rfz, ↓wc_run, ↓kRun_rt, ↓kRun_nx, ↓kRunR_fz, ↓kRunR_own, ↓wex_nil, ↓wex_fz, ↓wex_ref, ↓wex_rfz, ↓kEx_eq, ↓we_rev, ↓kRev0_eq, ↓kRev_l, ↓wk_eq, ↓kOwnK_own, ↓kOwnK_ref, ↓ws_setKey, ↓kSK1_eq, ↓kSK2_eq, ↓kSK3_eq, ↓kSK4_s, ↓kSK4_i, ↓kSK5_eq, ↓kSK6_eq, ↓we_get1, ↓kG1_eq, ↓kG2_d, ↓kG3_eq, ↓kG4_d, ↓kG5_s, ↓kG5_i, ↓we_get2, ↓kH1_eq, ↓kH2_d, ↓kH3_eq, ↓kH3b_eq, ↓kH4_d, ↓kH5_s, ↓kH5_i, ↓kWh_t, ↓kWh_f, ↓ws_while, ↓we_ext, ↓kEx0_eq, ↓kEx1_eq, ↓kEx3_eq, ↓kJ_nx, ↓kJ_rt, ↓kJ_bk, ↓kJ_ct, ↓kIs_eq, ↓kIsE_eq, wp_some, backSVs_nil, backSVs_cons, lock_unb, lock_fz, lock_own, plain_fz, plain_own, enter_fz, enter_own, put_ownE, put_refE, back_oo, back_of, back_ro, back_rf, back_fz, back_rfz, freeze_own, freeze_ref, freeze_fz, backAt_eq, findSV_nil, findSV_nil2, findSV_plc, findSV_fz, findSV_own, apart_nil, apart_fz, apart_own, apart_plc, placed_nil, placed_fz, placed_own, placed_plc, wipeE_nil, wipeE_cons, backE_nil, backE_cons, unlocked_nil, unlocked_cons, List.set_cons_zero, List.set_cons_succ, List.getD_cons_zero, List.getD_cons_succ, List.getElem?_cons_zero, List.getElem?_cons_succ, List.map_cons, List.map_nil, List.cons_append, List.nil_append, List.replicate_succ, List.replicate_zero, List.length_cons, List.length_nil, List.all_cons, List.all_nil, Nat.reduceSub, Nat.reduceAdd, Nat.reduceLeDiff, Nat.reduceEqDiff, Nat.reduceLT, Nat.zero_add, Bool.not_true, Bool.not_false, Bool.and_true, Bool.true_and, Bool.and_self, and_true, true_and, if_true, reduceIte, reduceCtorEq, decide_true, decide_false, Bool.false_eq_true, Bool.or_false, Bool.or_true, Bool.false_or, Bool.true_or, Bool.and_false, Bool.false_and, Nat.le_refl, lineN, Nat.one_ne_zero, Nat.zero_ne_one, addD_i, subD_i, negD_i, cmpI_i, eqD_i, neD_i, eqD_s, neD_s, eqD_b, neD_b, isD_n, isD_b, isNotD_n, isNotD_b, isBool_b, isNone_n, isNone_b, isNone_i, isNone_s, isNone_l, isNone_t, isNone_d, isi_eq, lenD_l, lenD_t, absD_n, maxD_m, minD_m, intD_i, listD_l, listD_t, tupleD_l, tupleD_t, isiB, mulSD_i, divD_i, modD_i, powD_i, ixD_l, ixD_t, ixD_s, slD_l, slD_t, slD_s, lenD_s, addD_s, addD_l, addD_t, strD_i, wp_bind, wp_guard, atI_0, atI_1, atI_2, atI_3, atI_4, ixN_0, ixN_1, ixN_2, Int.reduceNeg, Int.reduceSub, Int.reduceAdd, listD_s, tupleD_s, mulSD_s, small64_eq, decide_eq_true_eq, or_true, true_or, Int.reducePow, Int.reduceToNat, Int.reduceLE, Int.reduceLT, Int.reduceMul, Int.reduceEq, Int.zero_add, Nat.reducePow, Nat.reduceMul, Int.reduceAbs, rangeD_1, rangeD_2, rangeD_3, sortedD_l, maxLD_l, minLD_l, sumLD_l, reprD_1, ixD_ds, ixD_di, inD_ds, inD_di, notInD_ds, notInD_di, dictPD_l, intsOf_nil, intsOf_cons, Option.bind_some, List.max?_cons', List.min?_cons', List.foldl_cons, List.foldl_nil, kDictb_s, kDictb_int, Int.cast_ofNat_Int, upperD_eq, cutS_S, S_cps, S_len', SX.S_len, SX.S_cat, S_mk, repS_S, inD_S, notInD_S, signD_S, ixD_S, cutG_none, cutG_but, cutD_G, lit_0, lit_1, lit_2, lit_3, lit_4])
      exact k
    | a :: b :: c :: r, h, k =>
      have h2 : ¬ ((a :: b :: c :: r).length : Int) = 2 := by
        simp only [List.length_cons]
        omega
      have h3 : decide (((a :: b :: c :: r).length : Int) = 2) = false := decide_eq_false h2
      have h' : (a :: b :: c :: r).length ≤ lineN := h
      generalize hz : a :: b :: c :: r = z at *
      (try simp only [↓wx_0, ↓wx_s, ↓wv_fz, ↓wv_own, ↓wv_plc, ↓kView_fz, ↓kView_own, ↓kView_ref, ↓kView_rfz, ↓wf_fz, ↓wf_own, ↓wf_plc, ↓kFix_fz, ↓kFix_rfz, ↓kFix_own, ↓kFix_ref, ↓we_lit, ↓we_slot, ↓kSlot_fz, ↓kSlot_rfz, ↓kSlot_own, ↓kSlot_ref, ↓wa_nil, ↓wa_cons, ↓kCons1_eq, ↓kCons2_eq, ↓wvs_nil, ↓wvs_cons, ↓kVs1_eq, ↓kVs2_eq, ↓we_op2, ↓kOp2a_eq, ↓kOp2b_eq, ↓kOp2c_eq, ↓kOp2d_eq, ↓we_op1, ↓kOp1a_eq, ↓kOp1b_eq, ↓we_call, ↓kCalla_eq, ↓kCallb_eq, ↓wt_asT, ↓kAsT_eq, ↓wt_and, ↓wt_or, ↓wt_not, ↓kAnd_t, ↓kAnd_f, ↓kOr_t, ↓kOr_f, ↓kNot_eq, ↓we_eT, ↓kET_eq, ↓we_if, ↓kIfE_t, ↓kIfE_f, ↓we_chain, ↓kCh1_eq, ↓kCh2_eq, ↓kCh3_eq, ↓kCh4_eq, ↓kCh5_t, ↓kCh5_f, ↓wfs_nil, ↓wfs_cons, ↓kFs1_eq, ↓kFs2_eq, ↓we_tup, ↓we_lst, ↓kTup_eq, ↓kTupb_eq, ↓kLst_eq, ↓kLstb_eq, ↓we_dict, ↓kDict_eq, ↓kDictb_nil, ↓we_dictT, ↓kDictT_eq, ↓kDictTb_2, ↓wa_pairs0, ↓wa_pairs, ↓wo_no, ↓wo_sm, ↓kSm_eq, ↓we_sl, ↓kSl1_eq, ↓kSl2_eq, ↓kSl3_eq, ↓kSl4_eq, ↓we_m0, ↓we_m1, ↓kM0_eq, ↓kM1_eq, ↓kM1b_eq, ↓kM1c_eq, ↓wg_slot, ↓kGSlot_eq, ↓wgs_nil, ↓wgs_cons, ↓kGs_eq, ↓wg_unp, ↓wi_any, ↓kIAnyA_eq, ↓kIAny_l, ↓kIAny_t, ↓kIAny_s, ↓wi_r1, ↓wi_r2, ↓kR1_eq, ↓kR2_eq, ↓kR2a_eq, ↓we_lc, ↓kLc_eq, ↓kLcE_eq, ↓kLcF_eq, ↓kLcR_eq, ↓kLcT_eq, ↓kLcB_t, ↓kLcB_f, ↓wt_yes, ↓ws_skip, ↓ws_seq, ↓kSeq_nx, ↓kSeq_rt, ↓kSeq_bk, ↓kSeq_ct, ↓ws_expr, ↓kExpr_eq, ↓ws_set, ↓kSet_eq, ↓kSetL_eq, ↓kSetV_fz, ↓kSetV_own, ↓kSetV_plc, ↓kSetP_own, ↓kSetP_ref, ↓kSetP_fz, ↓ws_asg, ↓kAsg_fz, ↓kAsgB_eq, ↓ws_ret, ↓kRet_fz, ↓kRet_own, ↓kRet_plc, ↓kRetP_own, ↓kRetP_ref, ↓ws_retN, ↓ws_if, ↓kIf_t, ↓kIf_f, ↓ws_brk, ↓ws_cnt, ↓ws_for, ↓kFor_eq, ↓kLoop_nx, ↓kLoop_ct, ↓kLoop_bk, ↓kLoop_rt, ↓kBody_eq, ↓wl_eq, ↓kOwnL_own, ↓kOwnL_ref, ↓ws_setIx, ↓kSI1_eq, ↓kSI2_eq, ↓kSI3_eq, ↓kSI4_eq, ↓kSI5_eq, ↓we_app, ↓kAp0_eq, ↓kAp1_eq, ↓kAp2_eq, ↓kAp3_eq, ↓we_user, ↓kUsr_eq, ↓kUsr1_eq, ↓kUsr2_eq, ↓kUsr3_fz, ↓kUsr3_own, ↓warg_nil, ↓warg_fz, ↓warg_own, ↓warg_plc, ↓kArg1_eq, ↓kArg2_eq, ↓kArgP_own, ↓kArgP_ref, ↓kArgP_fz, ↓kArgP_rfz, ↓wc_run, ↓kRun_rt, ↓kRun_nx, ↓kRunR_fz, ↓kRunR_own, ↓wex_nil, ↓wex_fz, ↓wex_ref, ↓wex_rfz, ↓kEx_eq, ↓we_rev, ↓kRev0_eq, ↓kRev_l, ↓wk_eq, ↓kOwnK_own, ↓kOwnK_ref, ↓ws_setKey, ↓kSK1_eq, ↓kSK2_eq, ↓kSK3_eq, ↓kSK4_s, ↓kSK4_i, ↓kSK5_eq, ↓kSK6_eq, ↓we_get1, ↓kG1_eq, ↓kG2_d, ↓kG3_eq, ↓kG4_d, ↓kG5_s, ↓kG5_i, ↓we_get2, ↓kH1_eq, ↓kH2_d, ↓kH3_eq, ↓kH3b_eq, ↓kH4_d, ↓kH5_s, ↓kH5_i, ↓kWh_t, ↓kWh_f, ↓ws_while, ↓we_ext, ↓kEx0_eq, ↓kEx1_eq, ↓kEx3_eq, ↓kJ_nx, ↓kJ_rt, ↓kJ_bk, ↓kJ_ct, ↓kIs_eq, ↓kIsE_eq, wp_some, backSVs_nil, backSVs_cons, lock_unb, lock_fz, lock_own, plain_fz, plain_own, enter_fz, enter_own, put_ownE, put_refE, back_oo, back_of, back_ro, back_rf, back_fz, back_rfz, freeze_own, freeze_ref, freeze_fz, backAt_eq, findSV_nil, findSV_nil2, findSV_plc, findSV_fz, findSV_own, apart_nil, apart_fz, apart_own, apart_plc, placed_nil, placed_fz, placed_own, placed_plc, wipeE_nil, wipeE_cons, backE_nil, backE_cons, unlocked_nil, unlocked_cons, List.set_cons_zero, List.set_cons_succ, List.getD_cons_zero, List.getD_cons_succ, List.getElem?_cons_zero, List.getElem?_cons_succ, List.map_cons, List.map_nil, List.cons_append, List.nil_append, List.replicate_succ, List.replicate_zero, List.length_cons, List.length_nil, List.all_cons, List.all_nil, Nat.reduceSub, Nat.reduceAdd, Nat.reduceLeDiff, Nat.reduceEqDiff, Nat.reduceLT, Nat.zero_add, Bool.not_true, Bool.not_false, Bool.and_true, Bool.true_and, Bool.and_self, and_true, true_and, if_true, reduceIte, reduceCtorEq, decide_true, decide_false, Bool.false_eq_true, Bool.or_false, Bool.or_true, Bool.false_or, Bool.true_or, Bool.and_false, Bool.false_and, Nat.le_refl, lineN, Nat.one_ne_zero, Nat.zero_ne_one, addD_i, subD_i, negD_i, cmpI_i, eqD_i, neD_i, eqD_s, neD_s, eqD_b, neD_b, isD_n, isD_b, isNotD_n, isNotD_b, isBool_b, isNone_n, isNone_b, isNone_i, isNone_s, isNone_l, isNone_t, isNone_d, isi_eq, lenD_l, lenD_t, absD_n, maxD_m, minD_m, intD_i, listD_l, listD_t, tupleD_l, tupleD_t, isiB, mulSD_i, divD_i, modD_i, powD_i, ixD_l, ixD_t, ixD_s, slD_l, slD_t, slD_s, lenD_s, addD_s, addD_l, addD_t, strD_i, wp_bind, wp_guard, atI_0, atI_1, atI_2, atI_3, atI_4, ixN_0, ixN_1, ixN_2, Int.reduceNeg, Int.reduceSub, Int.reduceAdd, listD_s, tupleD_s, mulSD_s, small64_eq, decide_eq_true_eq, or_true, true_or, Int.reducePow, Int.reduceToNat, Int.reduceLE, Int.reduceLT, Int.reduceMul, Int.reduceEq, Int.zero_add, Nat.reducePow, Nat.reduceMul, Int.reduceAbs, rangeD_1, rangeD_2, rangeD_3, sortedD_l, maxLD_l, minLD_l, sumLD_l, reprD_1, ixD_ds, ixD_di, inD_ds, inD_di, notInD_ds, notInD_di, dictPD_l, intsOf_nil, intsOf_cons, Option.bind_some, List.max?_cons', List.min?_cons', List.foldl_cons, List.foldl_nil, kDictb_s, kDictb_int, Int.cast_ofNat_Int, upperD_eq, cutS_S, S_cps, S_len', SX.S_len, SX.S_cat, S_mk, repS_S, inD_S, notInD_S, signD_S, ixD_S, cutG_none, cutG_but, cutD_G, lit_0, lit_1, lit_2, lit_3, lit_4, h3])
      have e : spotB (.tuple z) = false := by subst hz; rfl
      rw [e] at k
      first | exact k | exact ⟨h', k⟩
  | _ =>
    (try simp only [↓wx_0, ↓wx_s, ↓wv_fz, ↓wv_own, ↓wv_plc, ↓kView_fz, ↓kView_own, ↓kView_ref, ↓kView_rfz, ↓wf_fz, ↓wf_own, ↓wf_plc, ↓kFix_fz, ↓kFix_rfz, ↓kFix_own, ↓kFix_ref, ↓we_lit, ↓we_slot, ↓kSlot_fz, ↓kSlot_rfz, ↓kSlot_own, ↓kSlot_ref, ↓wa_nil, ↓wa_cons, ↓kCons1_eq, ↓kCons2_eq, ↓wvs_nil, ↓wvs_cons, ↓kVs1_eq, ↓kVs2_eq, ↓we_op2, ↓kOp2a_eq, ↓kOp2b_eq, ↓kOp2c_eq, ↓kOp2d_eq, ↓we_op1, ↓kOp1a_eq, ↓kOp1b_eq, ↓we_call, ↓kCalla_eq, ↓kCallb_eq, ↓wt_asT, ↓kAsT_eq, ↓wt_and, ↓wt_or, ↓wt_not, ↓kAnd_t, ↓kAnd_f, ↓kOr_t, ↓kOr_f, ↓kNot_eq, ↓we_eT, ↓kET_eq, ↓we_if, ↓kIfE_t, ↓kIfE_f, ↓we_chain, ↓kCh1_eq, ↓kCh2_eq, ↓kCh3_eq, ↓kCh4_eq, ↓kCh5_t, ↓kCh5_f, ↓wfs_nil, ↓wfs_cons, ↓kFs1_eq, ↓kFs2_eq, ↓we_tup, ↓we_lst, ↓kTup_eq, ↓kTupb_eq, ↓kLst_eq, ↓kLstb_eq, ↓we_dict, ↓kDict_eq, ↓kDictb_nil, ↓we_dictT, ↓kDictT_eq, ↓kDictTb_2, ↓wa_pairs0, ↓wa_pairs, ↓wo_no, ↓wo_sm, ↓kSm_eq, ↓we_sl, ↓kSl1_eq, ↓kSl2_eq, ↓kSl3_eq, ↓kSl4_eq, ↓we_m0, ↓we_m1, ↓kM0_eq, ↓kM1_eq, ↓kM1b_eq, ↓kM1c_eq, ↓wg_slot, ↓kGSlot_eq, ↓wgs_nil, ↓wgs_cons, ↓kGs_eq, ↓wg_unp, ↓wi_any, ↓kIAnyA_eq, ↓kIAny_l, ↓kIAny_t, ↓kIAny_s, ↓wi_r1, ↓wi_r2, ↓kR1_eq, ↓kR2_eq, ↓kR2a_eq, ↓we_lc, ↓kLc_eq, ↓kLcE_eq, ↓kLcF_eq, ↓kLcR_eq, ↓kLcT_eq, ↓kLcB_t, ↓kLcB_f, ↓wt_yes, ↓ws_skip, ↓ws_seq, ↓kSeq_nx, ↓kSeq_rt, ↓kSeq_bk, ↓kSeq_ct, ↓ws_expr, ↓kExpr_eq, ↓ws_set, ↓kSet_eq, ↓kSetL_eq, ↓kSetV_fz, ↓kSetV_own, ↓kSetV_plc, ↓kSetP_own, ↓kSetP_ref, ↓kSetP_fz, ↓ws_asg, ↓kAsg_fz, ↓kAsgB_eq, ↓ws_ret, ↓kRet_fz, ↓kRet_own, ↓kRet_plc, ↓kRetP_own, ↓kRetP_ref, ↓ws_retN, ↓ws_if, ↓kIf_t, ↓kIf_f, ↓ws_brk, ↓ws_cnt, ↓ws_for, ↓kFor_eq, ↓kLoop_nx, ↓kLoop_ct, ↓kLoop_bk, ↓kLoop_rt, ↓kBody_eq, ↓wl_eq, ↓kOwnL_own, ↓kOwnL_ref, ↓ws_setIx, ↓kSI1_eq, ↓kSI2_eq, ↓kSI3_eq, ↓kSI4_eq, ↓kSI5_eq, ↓we_app, ↓kAp0_eq, ↓kAp1_eq, ↓kAp2_eq, ↓kAp3_eq, ↓we_user, ↓kUsr_eq, ↓kUsr1_eq, ↓kUsr2_eq, ↓kUsr3_fz, ↓kUsr3_own, ↓warg_nil, ↓warg_fz, ↓warg_own, ↓warg_plc, ↓kArg1_eq, ↓kArg2_eq, ↓kArgP_own, ↓kArgP_ref, ↓kArgP_fz, ↓kArgP_rfz, ↓wc_run, ↓kRun_rt, ↓kRun_nx, ↓kRunR_fz, ↓kRunR_own, ↓wex_nil, ↓wex_fz, ↓wex_ref, ↓wex_rfz, ↓kEx_eq, ↓we_rev, ↓kRev0_eq, ↓kRev_l, ↓wk_eq, ↓kOwnK_own, ↓kOwnK_ref, ↓ws_setKey, ↓kSK1_eq, ↓kSK2_eq, ↓kSK3_eq, ↓kSK4_s, ↓kSK4_i, ↓kSK5_eq, ↓kSK6_eq, ↓we_get1, ↓kG1_eq, ↓kG2_d, ↓kG3_eq, ↓kG4_d, ↓kG5_s, ↓kG5_i, ↓we_get2, ↓kH1_eq, ↓kH2_d, ↓kH3_eq, ↓kH3b_eq, ↓kH4_d, ↓kH5_s, ↓kH5_i, ↓kWh_t, ↓kWh_f, ↓ws_while, ↓we_ext, ↓kEx0_eq, ↓kEx1_eq, ↓kEx3_eq, ↓kJ_nx, ↓kJ_rt, ↓kJ_bk, ↓kJ_ct, ↓kIs_eq, ↓kIsE_eq, wp_some, backSVs_nil, backSVs_cons, lock_unb, lock_fz, lock_own, plain_fz, plain_own, enter_fz, enter_own, put_ownE, put_refE, back_oo, back_of, back_ro, back_rf, back_fz, back_rfz, freeze_own, freeze_ref, freeze_fz, backAt_eq, findSV_nil, findSV_nil2, findSV_plc, findSV_fz, findSV_own, apart_nil, apart_fz, apart_own, apart_plc, placed_nil, placed_fz, placed_own, placed_plc, wipeE_nil, wipeE_cons, backE_nil, backE_cons, unlocked_nil, unlocked_cons, List.set_cons_zero, List.set_cons_succ, List.getD_cons_zero, List.getD_cons_succ, List.getElem?_cons_zero, List.getElem?_cons_succ, List.map_cons, List.map_nil, List.cons_append, List.nil_append, List.replicate_succ, List.replicate_zero, List.length_cons, List.length_nil, List.all_cons, List.all_nil, Nat.reduceSub, Nat.reduceAdd, Nat.reduceLeDiff, Nat.reduceEqDiff, Nat.reduceLT, Nat.zero_add, Bool.not_true, Bool.not_false, Bool.and_true, Bool.true_and, Bool.and_self, and_true, true_and, if_true, reduceIte, reduceCtorEq, decide_true, decide_false, Bool.false_eq_true, Bool.or_false, Bool.or_true, Bool.false_or, Bool.true_or, Bool.and_false, Bool.false_and, Nat.le_refl, lineN, Nat.one_ne_zero, Nat.zero_ne_one, addD_i, subD_i, negD_i, cmpI_i, eqD_i, neD_i, eqD_s, neD_s, eqD_b, neD_b, isD_n, isD_b, isNotD_n, isNotD_b, isBool_b, isNone_n, isNone_b, isNone_i, isNone_s, isNone_l, isNone_t, isNone_d, isi_eq, lenD_l, lenD_t, absD_n, maxD_m, minD_m, intD_i, listD_l, listD_t, tupleD_l, tupleD_t, isiB, mulSD_i, divD_i, modD_i, powD_i, ixD_l, ixD_t, ixD_s, slD_l, slD_t, slD_s, lenD_s, addD_s, addD_l, addD_t, strD_i, wp_bind, wp_guard, atI_0, atI_1, atI_2, atI_3, atI_4, ixN_0, ixN_1, ixN_2, Int.reduceNeg, Int.reduceSub, Int.reduceAdd, listD_s, tupleD_s, mulSD_s, small64_eq, decide_eq_true_eq, or_true, true_or, Int.reducePow, Int.reduceToNat, Int.reduceLE, Int.reduceLT, Int.reduceMul, Int.reduceEq, Int.zero_add, Nat.reducePow, Nat.reduceMul, Int.reduceAbs, rangeD_1, rangeD_2, rangeD_3, sortedD_l, maxLD_l, minLD_l, sumLD_l, reprD_1, ixD_ds, ixD_di, inD_ds, inD_di, notInD_ds, notInD_di, dictPD_l, intsOf_nil, intsOf_cons, Option.bind_some, List.max?_cons', List.min?_cons', List.foldl_cons, List.foldl_nil, kDictb_s, kDictb_int, Int.cast_ofNat_Int, upperD_eq, cutS_S, S_cps, S_len', SX.S_len, SX.S_cat, S_mk, repS_S, inD_S, notInD_S, signD_S, ixD_S, cutG_none, cutG_but, cutD_G, lit_0, lit_1, lit_2, lit_3, lit_4])
    exact k

theorem boxB_bad {a b : PyData} (h : spotB a = false ∨ spotB b = false) : boxB (.tuple [a, b]) = false := by
  show (spotB a && spotB b && leB a b) = false
  rcases h with h | h <;> simp [h]
theorem spotB_is {d : PyData} (h : spotB d = true) : ∃ a b : Int, d = .tuple [.int a, .int b] ∧ (a.natAbs : Int) < 1000000000000 ∧ (b.natAbs : Int) < 1000000000000 := by
  unfold spotB at h
  split at h
  · rename_i a b
    rw [Bool.and_eq_true] at h
    obtain ⟨h1, h2⟩ := h
    obtain ⟨x, rfl, q1⟩ := nearB_is h1
    obtain ⟨y, rfl, q2⟩ := nearB_is h2
    exact ⟨_, _, rfl, q1, q2⟩
  · cases h
theorem isbox_any {d : PyData} {P : List SV → RV → Prop} (hs : szB d) (k : P [.fz d] (.fz (.bool (boxB d)))) : WC c_is_box [.fz d] P := by
  unfold c_is_box b_is_box
  cases d with
  | tuple xs =>
    obtain ⟨hs', hm⟩ : xs.length ≤ lineN ∧ ∀ x ∈ xs, szT x := hs
    match xs, hs', hm, k with
    | [a, b], _, hm, k =>
      (try simp only [↓wx_0, ↓wx_s, ↓wv_fz, ↓wv_own, ↓wv_plc, ↓kView_fz, ↓kView_own, ↓kView_ref, ↓kView_rfz, ↓wf_fz, ↓wf_own, ↓wf_plc, ↓kFix_fz, ↓kFix_rfz, ↓kFix_own, ↓kFix_ref, ↓we_lit, ↓we_slot, ↓kSlot_fz, ↓kSlot_rfz, ↓kSlot_own, ↓kSlot_ref, ↓wa_nil, ↓wa_cons, ↓kCons1_eq, ↓kCons2_eq, ↓wvs_nil, ↓wvs_cons, ↓kVs1_eq, ↓kVs2_eq, ↓we_op2, ↓kOp2a_eq, ↓kOp2b_eq, ↓kOp2c_eq, ↓kOp2d_eq, ↓we_op1, ↓kOp1a_eq, ↓kOp1b_eq, ↓we_call, ↓kCalla_eq, ↓kCallb_eq, ↓wt_asT, ↓kAsT_eq, ↓wt_and, ↓wt_or, ↓wt_not, ↓kAnd_t, ↓kAnd_f, ↓kOr_t, ↓kOr_f, ↓kNot_eq, ↓we_eT, ↓kET_eq, ↓we_if, ↓kIfE_t, ↓kIfE_f, ↓we_chain, ↓kCh1_eq, ↓kCh2_eq, ↓kCh3_eq, ↓kCh4_eq, ↓kCh5_t, ↓kCh5_f, ↓wfs_nil, ↓wfs_cons, ↓kFs1_eq, ↓kFs2_eq, ↓we_tup, ↓we_lst, ↓kTup_eq, ↓kTupb_eq, ↓kLst_eq, ↓kLstb_eq, ↓we_dict, ↓kDict_eq, ↓kDictb_nil, ↓we_dictT, ↓kDictT_eq, ↓kDictTb_2, ↓wa_pairs0, ↓wa_pairs, ↓wo_no, ↓wo_sm, ↓kSm_eq, ↓we_sl, ↓kSl1_eq, ↓kSl2_eq, ↓kSl3_eq, ↓kSl4_eq, ↓we_m0, ↓we_m1, ↓kM0_eq, ↓kM1_eq, ↓kM1b_eq, ↓kM1c_eq, ↓wg_slot, ↓kGSlot_eq, ↓wgs_nil, ↓wgs_cons, ↓kGs_eq, ↓wg_unp, ↓wi_any, ↓kIAnyA_eq, ↓kIAny_l, ↓kIAny_t, ↓kIAny_s, ↓wi_r1, ↓wi_r2, ↓kR1_eq, ↓kR2_eq, ↓kR2a_eq, ↓we_lc, ↓kLc_eq, ↓kLcE_eq, ↓kLcF_eq, ↓kLcR_eq, ↓kLcT_eq, ↓kLcB_t, ↓kLcB_f, ↓wt_yes, ↓ws_skip, ↓ws_seq, ↓kSeq_nx, ↓kSeq_rt, ↓kSeq_bk, ↓kSeq_ct, ↓ws_expr, ↓kExpr_eq, ↓ws_set, ↓kSet_eq, ↓kSetL_eq, ↓kSetV_fz, ↓kSetV_own, ↓kSetV_plc, ↓kSetP_own, ↓kSetP_ref, ↓kSetP_fz, ↓ws_asg, ↓kAsg_fz, ↓kAsgB_eq, ↓ws_ret, ↓kRet_fz, ↓kRet_own, ↓kRet_plc, ↓kRetP_own, ↓kRetP_ref, ↓ws_retN, ↓ws_if, ↓kIf_t, ↓kIf_f, ↓ws_brk, ↓ws_cnt, ↓ws_for, ↓kFor_eq, ↓kLoop_nx, ↓kLoop_ct, ↓kLoop_bk, ↓kLoop_rt, ↓kBody_eq, ↓wl_eq, ↓kOwnL_own, ↓kOwnL_ref, ↓ws_setIx, ↓kSI1_eq, ↓kSI2_eq, ↓kSI3_eq, ↓kSI4_eq, ↓kSI5_eq, ↓we_app, ↓kAp0_eq, ↓kAp1_eq, ↓kAp2_eq, ↓kAp3_eq, ↓we_user, ↓kUsr_eq, ↓kUsr1_eq, ↓kUsr2_eq, ↓kUsr3_fz, ↓kUsr3_own, ↓warg_nil, ↓warg_fz, ↓warg_own, ↓warg_plc, ↓kArg1_eq, ↓kArg2_eq, ↓kArgP_own, ↓kArgP_ref, ↓kArgP_fz, ↓kArgP_rfz, ↓wc_run, ↓kRun_rt, ↓kRun_nx, ↓kRunR_fz, ↓kRunR_own, ↓wex_nil, ↓wex_fz, ↓wex_ref, ↓wex_rfz, ↓kEx_eq, ↓we_rev, ↓kRev0_eq, ↓kRev_l, ↓wk_eq, ↓kOwnK_own, ↓kOwnK_ref, ↓ws_setKey, ↓kSK1_eq, ↓kSK2_eq, ↓kSK3_eq, ↓kSK4_s, ↓kSK4_i, ↓kSK5_eq, ↓kSK6_eq, ↓we_get1, ↓kG1_eq, ↓kG2_d, ↓kG3_eq, ↓kG4_d, ↓kG5_s, ↓kG5_i, ↓we_get2, ↓kH1_eq, ↓kH2_d, ↓kH3_eq, ↓kH3b_eq, ↓kH4_d, ↓kH5_s, ↓kH5_i, ↓kWh_t, ↓kWh_f, ↓ws_while, ↓we_ext, ↓kEx0_eq, ↓kEx1_eq, ↓kEx3_eq, ↓kJ_nx, ↓kJ_rt, ↓kJ_bk, ↓kJ_ct, ↓kIs_eq, ↓kIsE_eq, wp_some, backSVs_nil, backSVs_cons, lock_unb, lock_fz, lock_own, plain_fz, plain_own, enter_fz, enter_own, put_ownE, put_refE, back_oo, back_of, back_ro, back_rf, back_fz, back_rfz, freeze_own, freeze_ref, freeze_fz, backAt_eq, findSV_nil, findSV_nil2, findSV_plc, findSV_fz, findSV_own, apart_nil, apart_fz, apart_own, apart_plc, placed_nil, placed_fz, placed_own, placed_plc, wipeE_nil, wipeE_cons, backE_nil, backE_cons, unlocked_nil, unlocked_cons, List.set_cons_zero, List.set_cons_succ, List.getD_cons_zero, List.getD_cons_succ, List.getElem?_cons_zero, List.getElem?_cons_succ, List.map_cons, List.map_nil, List.cons_append, List.nil_append, List.replicate_succ, List.replicate_zero, List.length_cons, List.length_nil, List.all_cons, List.all_nil, Nat.reduceSub, Nat.reduceAdd, Nat.reduceLeDiff, Nat.reduceEqDiff, Nat.reduceLT, Nat.zero_add, Bool.not_true, Bool.not_false, Bool.and_true, Bool.true_and, Bool.and_self, and_true, true_and, if_true, reduceIte, reduceCtorEq, decide_true, decide_false, Bool.false_eq_true, Bool.or_false, Bool.or_true, Bool.false_or, Bool.true_or, Bool.and_false, Bool.false_and, Nat.le_refl, lineN, Nat.one_ne_zero, Nat.zero_ne_one, addD_i, subD_i, negD_i, cmpI_i, eqD_i, neD_i, eqD_s, neD_s, eqD_b, neD_b, isD_n, isD_b, isNotD_n, isNotD_b, isBool_b, isNone_n, isNone_b, isNone_i, isNone_s, isNone_l, isNone_t, isNone_d, isi_eq, lenD_l, lenD_t, absD_n, maxD_m, minD_m, intD_i, listD_l, listD_t, tupleD_l, tupleD_t, isiB, mulSD_i, divD_i, modD_i, powD_i, ixD_l, ixD_t, ixD_s, slD_l, slD_t, slD_s, lenD_s, addD_s, addD_l, addD_t, strD_i, wp_bind, wp_guard, atI_0, atI_1, atI_2, atI_3, atI_4, ixN_0, ixN_1, ixN_2, Int.reduceNeg, Int.reduceSub, Int.reduceAdd, listD_s, tupleD_s, mulSD_s, small64_eq, decide_eq_true_eq, or_true, true_or, Int.reducePow, Int.reduceToNat, Int.reduceLE, Int.reduceLT, Int.reduceMul, Int.reduceEq, Int.zero_add, Nat.reducePow, Nat.reduceMul, Int.reduceAbs, rangeD_1, rangeD_2, rangeD_3, sortedD_l, maxLD_l, minLD_l, sumLD_l, reprD_1, ixD_ds, ixD_di, inD_ds, inD_di, notInD_ds, notInD_di, dictPD_l, intsOf_nil, intsOf_cons, Option.bind_some, List.max?_cons', List.min?_cons', List.foldl_cons, List.foldl_nil, kDictb_s, kDictb_int, Int.cast_ofNat_Int, upperD_eq, cutS_S, S_cps, S_len', SX.S_len, SX.S_cat, S_mk, repS_S, inD_S, notInD_S, signD_S, ixD_S, cutG_none, cutG_but, cutD_G, lit_0, lit_1, lit_2, lit_3, lit_4])
      refine isspot_any (hm a (by simp)) ?_
      cases ha : spotB a
      · rw [boxB_bad (.inl ha)] at k
        (try simp only [↓wx_0, ↓wx_s, ↓wv_fz, ↓wv_own, ↓wv_plc, ↓kView_fz, ↓kView_own, ↓kView_ref, ↓kView_rfz, ↓wf_fz, ↓wf_own, ↓wf_plc, ↓kFix_fz, ↓kFix_rfz, ↓kFix_own, ↓kFix_ref, ↓we_lit, ↓we_slot, ↓kSlot_fz, ↓kSlot_rfz, ↓kSlot_own, ↓kSlot_ref, ↓wa_nil, ↓wa_cons, ↓kCons1_eq, ↓kCons2_eq, ↓wvs_nil, ↓wvs_cons, ↓kVs1_eq, ↓kVs2_eq, ↓we_op2, ↓kOp2a_eq, ↓kOp2b_eq, ↓kOp2c_eq, ↓kOp2d_eq, ↓we_op1, ↓kOp1a_eq, ↓kOp1b_eq, ↓we_call, ↓kCalla_eq, ↓kCallb_eq, ↓wt_asT, ↓kAsT_eq, ↓wt_and, ↓wt_or, ↓wt_not, ↓kAnd_t, ↓kAnd_f, ↓kOr_t, ↓kOr_f, ↓kNot_eq, ↓we_eT, ↓kET_eq, ↓we_if, ↓kIfE_t, ↓kIfE_f, ↓we_chain, ↓kCh1_eq, ↓kCh2_eq, ↓kCh3_eq, ↓kCh4_eq, ↓kCh5_t, ↓kCh5_f, ↓wfs_nil, ↓wfs_cons, ↓kFs1_eq, ↓kFs2_eq, ↓we_tup, ↓we_lst, ↓kTup_eq, ↓kTupb_eq, ↓kLst_eq, ↓kLstb_eq, ↓we_dict, ↓kDict_eq, ↓kDictb_nil, ↓we_dictT, ↓kDictT_eq, ↓kDictTb_2, ↓wa_pairs0, ↓wa_pairs, ↓wo_no, ↓wo_sm, ↓kSm_eq, ↓we_sl, ↓kSl1_eq, ↓kSl2_eq, ↓kSl3_eq, ↓kSl4_eq, ↓we_m0, ↓we_m1, ↓kM0_eq, ↓kM1_eq, ↓kM1b_eq, ↓kM1c_eq, ↓wg_slot, ↓kGSlot_eq, ↓wgs_nil, ↓wgs_cons, ↓kGs_eq, ↓wg_unp, ↓wi_any, ↓kIAnyA_eq, ↓kIAny_l, ↓kIAny_t, ↓kIAny_s, ↓wi_r1, ↓wi_r2, ↓kR1_eq, ↓kR2_eq, ↓kR2a_eq, ↓we_lc, ↓kLc_eq, ↓kLcE_eq, ↓kLcF_eq, ↓kLcR_eq, ↓kLcT_eq, ↓kLcB_t, ↓kLcB_f, ↓wt_yes, ↓ws_skip, ↓ws_seq, ↓kSeq_nx, ↓kSeq_rt, ↓kSeq_bk, ↓kSeq_ct, ↓ws_expr, ↓kExpr_eq, ↓ws_set, ↓kSet_eq, ↓kSetL_eq, ↓kSetV_fz, ↓kSetV_own, ↓kSetV_plc, ↓kSetP_own, ↓kSetP_ref, ↓kSetP_fz, ↓ws_asg, ↓kAsg_fz, ↓kAsgB_eq, ↓ws_ret, ↓kRet_fz, ↓kRet_own, ↓kRet_plc, ↓kRetP_own, ↓kRetP_ref, ↓ws_retN, ↓ws_if, ↓kIf_t, ↓kIf_f, ↓ws_brk, ↓ws_cnt, ↓ws_for, ↓kFor_eq, ↓kLoop_nx, ↓kLoop_ct, ↓kLoop_bk, ↓kLoop_rt, ↓kBody_eq, ↓wl_eq, ↓kOwnL_own, ↓kOwnL_ref, ↓ws_setIx, ↓kSI1_eq, ↓kSI2_eq, ↓kSI3_eq, ↓kSI4_eq, ↓kSI5_eq, ↓we_app, ↓kAp0_eq, ↓kAp1_eq, ↓kAp2_eq, ↓kAp3_eq, ↓we_user, ↓kUsr_eq, ↓kUsr1_eq, ↓kUsr2_eq, ↓kUsr3_fz, ↓kUsr3_own, ↓warg_nil, ↓warg_fz, ↓warg_own, ↓warg_plc, ↓kArg1_eq, ↓kArg2_eq, ↓kArgP_own, ↓kArgP_ref, ↓kArgP_fz, ↓kArgP_rfz, ↓wc_run, ↓kRun_rt, ↓kRun_nx, ↓kRunR_fz, ↓kRunR_own, ↓wex_nil, ↓wex_fz, ↓wex_ref, ↓wex_rfz, ↓kEx_eq, ↓we_rev, ↓kRev0_eq, ↓kRev_l, ↓wk_eq, ↓kOwnK_own, ↓kOwnK_ref, ↓ws_setKey, ↓kSK1_eq, ↓kSK2_eq, ↓kSK3_eq, ↓kSK4_s, ↓kSK4_i, ↓kSK5_eq, ↓kSK6_eq, ↓we_get1, ↓kG1_eq, ↓kG2_d, ↓kG3_eq, ↓kG4_d, ↓kG5_s, ↓kG5_i, ↓we_get2, ↓kH1_eq, ↓kH2_d, ↓kH3_eq, ↓kH3b_eq, ↓kH4_d, ↓kH5_s, ↓kH5_i, ↓kWh_t, ↓kWh_f, ↓ws_while, ↓we_ext, ↓kEx0_eq, ↓kEx1_eq, ↓kEx3_eq, ↓kJ_nx, ↓kJ_rt, ↓kJ_bk, ↓kJ_ct, ↓kIs_eq, ↓kIsE_eq, wp_some, backSVs_nil, backSVs_cons, lock_unb, lock_fz, lock_own, plain_fz, plain_own, enter_fz, enter_own, put_ownE, put_refE, back_oo, back_of, back_ro, back_rf, back_fz, back_rfz, freeze_own, freeze_ref, freeze_fz, backAt_eq, findSV_nil, findSV_nil2, findSV_plc, findSV_fz, findSV_own, apart_nil, apart_fz, apart_own, apart_plc, placed_nil, placed_fz, placed_own, placed_plc, wipeE_nil, wipeE_cons, backE_nil, backE_cons, unlocked_nil, unlocked_cons, List.set_cons_zero, List.set_cons_succ, List.getD_cons_zero, List.getD_cons_succ, List.getElem?_cons_zero, List.getElem?_cons_succ, List.map_cons, List.map_nil, List.cons_append, List.nil_append, List.replicate_succ, List.replicate_zero, List.length_cons, List.length_nil, List.all_cons, List.all_nil, Nat.reduceSub, Nat.reduceAdd, Nat.reduceLeDiff, Nat.reduceEqDiff, Nat.reduceLT, Nat.zero_add, Bool.not_true, Bool.not_false, Bool.and_true, Bool.true_and, Bool.and_self, and_true, true_and, if_true, reduceIte, reduceCtorEq, decide_true, decide_false, Bool.false_eq_true, Bool.or_false, Bool.or_true, Bool.false_or, Bool.true_or, Bool.and_false, Bool.false_and, Nat.le_refl, lineN, Nat.one_ne_zero, Nat.zero_ne_one, addD_i, subD_i, negD_i, cmpI_i, eqD_i, neD_i, eqD_s, neD_s, eqD_b, neD_b, isD_n, isD_b, isNotD_n, isNotD_b, isBool_b, isNone_n, isNone_b, isNone_i, isNone_s, isNone_l, isNone_t, isNone_d, isi_eq, lenD_l, lenD_t, absD_n, maxD_m, minD_m, intD_i, listD_l, listD_t, tupleD_l, tupleD_t, isiB, mulSD_i, divD_i, modD_i, powD_i, ixD_l, ixD_t, ixD_s, slD_l, slD_t, slD_s, lenD_s, addD_s, addD_l, addD_t, strD_i, wp_bind, wp_guard, atI_0, atI_1, atI_2, atI_3, atI_4, ixN_0, ixN_1, ixN_2, Int.reduceNeg, Int.reduceSub, Int.reduceAdd, listD_s, tupleD_s, mulSD_s, small64_eq, decide_eq_true_eq, or_true, true_or, Int.reducePow, Int.reduceToNat, Int.reduceLE, Int.reduceLT, Int.reduceMul, Int.reduceEq, Int.zero_add, Nat.reducePow, Nat.reduceMul, Int.reduceAbs, rangeD_1, rangeD_2, rangeD_3, sortedD_l, maxLD_l, minLD_l, sumLD_l, reprD_1, ixD_ds, ixD_di, inD_ds, inD_di, notInD_ds, notInD_di, dictPD_l, intsOf_nil, intsOf_cons, Option.bind_some, List.max?_cons', List.min?_cons', List.foldl_cons, List.foldl_nil, kDictb_s, kDictb_int, Int.cast_ofNat_Int, upperD_eq, cutS_S, S_cps, S_len', SX.S_len, SX.S_cat, S_mk, repS_S, inD_S, notInD_S, signD_S, ixD_S, cutG_none, cutG_but, cutD_G, lit_0, lit_1, lit_2, lit_3, lit_4])
        exact k
      · (try simp only [↓wx_0, ↓wx_s, ↓wv_fz, ↓wv_own, ↓wv_plc, ↓kView_fz, ↓kView_own, ↓kView_ref, ↓kView_rfz, ↓wf_fz, ↓wf_own, ↓wf_plc, ↓kFix_fz, ↓kFix_rfz, ↓kFix_own, ↓kFix_ref, ↓we_lit, ↓we_slot, ↓kSlot_fz, ↓kSlot_rfz, ↓kSlot_own, ↓kSlot_ref, ↓wa_nil, ↓wa_cons, ↓kCons1_eq, ↓kCons2_eq, ↓wvs_nil, ↓wvs_cons, ↓kVs1_eq, ↓kVs2_eq, ↓we_op2, ↓kOp2a_eq, ↓kOp2b_eq, ↓kOp2c_eq, ↓kOp2d_eq, ↓we_op1, ↓kOp1a_eq, ↓kOp1b_eq, ↓we_call, ↓kCalla_eq, ↓kCallb_eq, ↓wt_asT, ↓kAsT_eq, ↓wt_and, ↓wt_or, ↓wt_not, ↓kAnd_t, ↓kAnd_f, ↓kOr_t, ↓kOr_f, ↓kNot_eq, ↓we_eT, ↓kET_eq, ↓we_if, ↓kIfE_t, ↓kIfE_f, ↓we_chain, ↓kCh1_eq, ↓kCh2_eq, ↓kCh3_eq, ↓kCh4_eq, ↓kCh5_t, ↓kCh5_f, ↓wfs_nil, ↓wfs_cons, ↓kFs1_eq, ↓kFs2_eq, ↓we_tup, ↓we_lst, ↓kTup_eq, ↓kTupb_eq, ↓kLst_eq, ↓kLstb_eq, ↓we_dict, ↓kDict_eq, ↓kDictb_nil, ↓we_dictT, ↓kDictT_eq, ↓kDictTb_2, ↓wa_pairs0, ↓wa_pairs, ↓wo_no, ↓wo_sm, ↓kSm_eq, ↓we_sl, ↓kSl1_eq, ↓kSl2_eq, ↓kSl3_eq, ↓kSl4_eq, ↓we_m0, ↓we_m1, ↓kM0_eq, ↓kM1_eq, ↓kM1b_eq, ↓kM1c_eq, ↓wg_slot, ↓kGSlot_eq, ↓wgs_nil, ↓wgs_cons, ↓kGs_eq, ↓wg_unp, ↓wi_any, ↓kIAnyA_eq, ↓kIAny_l, ↓kIAny_t, ↓kIAny_s, ↓wi_r1, ↓wi_r2, ↓kR1_eq, ↓kR2_eq, ↓kR2a_eq, ↓we_lc, ↓kLc_eq, ↓kLcE_eq, ↓kLcF_eq, ↓kLcR_eq, ↓kLcT_eq, ↓kLcB_t, ↓kLcB_f, ↓wt_yes, ↓ws_skip, ↓ws_seq, ↓kSeq_nx, ↓kSeq_rt, ↓kSeq_bk, ↓kSeq_ct, ↓ws_expr, ↓kExpr_eq, ↓ws_set, ↓kSet_eq, ↓kSetL_eq, ↓kSetV_fz, ↓kSetV_own, ↓kSetV_plc, ↓kSetP_own, ↓kSetP_ref, ↓kSetP_fz, ↓ws_asg, ↓kAsg_fz, ↓kAsgB_eq, ↓ws_ret, ↓kRet_fz, ↓kRet_own, ↓kRet_plc, ↓kRetP_own, ↓kRetP_ref, ↓ws_retN, ↓ws_if, ↓kIf_t, ↓kIf_f, ↓ws_brk, ↓ws_cnt, ↓ws_for, ↓kFor_eq, ↓kLoop_nx, ↓kLoop_ct, ↓kLoop_bk, ↓kLoop_rt, ↓kBody_eq, ↓wl_eq, ↓kOwnL_own, ↓kOwnL_ref, ↓ws_setIx, ↓kSI1_eq, ↓kSI2_eq, ↓kSI3_eq, ↓kSI4_eq, ↓kSI5_eq, ↓we_app, ↓kAp0_eq, ↓kAp1_eq, ↓kAp2_eq, ↓kAp3_eq, ↓we_user, ↓kUsr_eq, ↓kUsr1_eq, ↓kUsr2_eq, ↓kUsr3_fz, ↓kUsr3_own, ↓warg_nil, ↓warg_fz, ↓warg_own, ↓warg_plc, ↓kArg1_eq, ↓kArg2_eq, ↓kArgP_own, ↓kArgP_ref, ↓kArgP_fz, ↓kArgP_rfz, ↓wc_run, ↓kRun_rt, ↓kRun_nx, ↓kRunR_fz, ↓kRunR_own, ↓wex_nil, ↓wex_fz, ↓wex_ref, ↓wex_rfz, ↓kEx_eq, ↓we_rev, ↓kRev0_eq, ↓kRev_l, ↓wk_eq, ↓kOwnK_own, ↓kOwnK_ref, ↓ws_setKey, ↓kSK1_eq, ↓kSK2_eq, ↓kSK3_eq, ↓kSK4_s, ↓kSK4_i, ↓kSK5_eq, ↓kSK6_eq, ↓we_get1, ↓kG1_eq, ↓kG2_d, ↓kG3_eq, ↓kG4_d, ↓kG5_s, ↓kG5_i, ↓we_get2, ↓kH1_eq, ↓kH2_d, ↓kH3_eq, ↓kH3b_eq, ↓kH4_d, ↓kH5_s, ↓kH5_i, ↓kWh_t, ↓kWh_f, ↓ws_while, ↓we_ext, ↓kEx0_eq, ↓kEx1_eq, ↓kEx3_eq, ↓kJ_nx, ↓kJ_rt, ↓kJ_bk, ↓kJ_ct, ↓kIs_eq, ↓kIsE_eq, wp_some, backSVs_nil, backSVs_cons, lock_unb, lock_fz, lock_own, plain_fz, plain_own, enter_fz, enter_own, put_ownE, put_refE, back_oo, back_of, back_ro, back_rf, back_fz, back_rfz, freeze_own, freeze_ref, freeze_fz, backAt_eq, findSV_nil, findSV_nil2, findSV_plc, findSV_fz, findSV_own, apart_nil, apart_fz, apart_own, apart_plc, placed_nil, placed_fz, placed_own, placed_plc, wipeE_nil, wipeE_cons, backE_nil, backE_cons, unlocked_nil, unlocked_cons, List.set_cons_zero, List.set_cons_succ, List.getD_cons_zero, List.getD_cons_succ, List.getElem?_cons_zero, List.getElem?_cons_succ, List.map_cons, List.map_nil, List.cons_append, List.nil_append, List.replicate_succ, List.replicate_zero, List.length_cons, List.length_nil, List.all_cons, List.all_nil, Nat.reduceSub, Nat.reduceAdd, Nat.reduceLeDiff, Nat.reduceEqDiff, Nat.reduceLT, Nat.zero_add, Bool.not_true, Bool.not_false, Bool.and_true, Bool.true_and, Bool.and_self, and_true, true_and, if_true, reduceIte, reduceCtorEq, decide_true, decide_false, Bool.false_eq_true, Bool.or_false, Bool.or_true, Bool.false_or, Bool.true_or, Bool.and_false, Bool.false_and, Nat.le_refl, lineN, Nat.one_ne_zero, Nat.zero_ne_one, addD_i, subD_i, negD_i, cmpI_i, eqD_i, neD_i, eqD_s, neD_s, eqD_b, neD_b, isD_n, isD_b, isNotD_n, isNotD_b, isBool_b, isNone_n, isNone_b, isNone_i, isNone_s, isNone_l, isNone_t, isNone_d, isi_eq, lenD_l, lenD_t, absD_n, maxD_m, minD_m, intD_i, listD_l, listD_t, tupleD_l, tupleD_t, isiB, mulSD_i, divD_i, modD_i, powD_i, ixD_l, ixD_t, ixD_s, slD_l, slD_t, slD_s, lenD_s, addD_s, addD_l, addD_t, strD_i, wp_bind, wp_guard, atI_0, atI_1, atI_2, atI_3, atI_4, ixN_0, ixN_1, ixN_2, Int.reduceNeg, Int.reduceSub, Int.reduceAdd, listD_s, tupleD_s, mulSD_s, small64_eq, decide_eq_true_eq, or_true, true_or, Int.reducePow, Int.reduceToNat, Int.reduceLE, Int.reduceLT, Int.reduceMul, Int.reduceEq, Int.zero_add, Nat.reducePow, Nat.reduceMul, Int.reduceAbs, rangeD_1, rangeD_2, rangeD_3, sortedD_l, maxLD_l, minLD_l, sumLD_l, reprD_1, ixD_ds, ixD_di, inD_ds, inD_di, notInD_ds, notInD_di, dictPD_l, intsOf_nil, intsOf_cons, Option.bind_some, List.max?_cons', List.min?_cons', List.foldl_cons, List.foldl_nil, kDictb_s, kDictb_int, Int.cast_ofNat_Int, upperD_eq, cutS_S, S_cps, S_len', SX.S_len, SX.S_cat, S_mk, repS_S, inD_S, notInD_S, signD_S, ixD_S, cutG_none, cutG_but, cutD_G, lit_0, lit_1, lit_2, lit_3, lit_4])
        refine isspot_any (hm b (by simp)) ?_
        cases hb : spotB b
        · rw [boxB_bad (.inr hb)] at k
          (try simp only [↓wx_0, ↓wx_s, ↓wv_fz, ↓wv_own, ↓wv_plc, ↓kView_fz, ↓kView_own, ↓kView_ref, ↓kView_rfz, ↓wf_fz, ↓wf_own, ↓wf_plc, ↓kFix_fz, ↓kFix_rfz, ↓kFix_own, ↓kFix_ref, ↓we_lit, ↓we_slot, ↓kSlot_fz, ↓kSlot_rfz, ↓kSlot_own, ↓kSlot_ref, ↓wa_nil, ↓wa_cons, ↓kCons1_eq, ↓kCons2_eq, ↓wvs_nil, ↓wvs_cons, ↓kVs1_eq, ↓kVs2_eq, ↓we_op2, ↓kOp2a_eq, ↓kOp2b_eq, ↓kOp2c_eq, ↓kOp2d_eq, ↓we_op1, ↓kOp1a_eq, ↓kOp1b_eq, ↓we_call, ↓kCalla_eq, ↓kCallb_eq, ↓wt_asT, ↓kAsT_eq, ↓wt_and, ↓wt_or, ↓wt_not, ↓kAnd_t, ↓kAnd_f, ↓kOr_t, ↓kOr_f, ↓kNot_eq, ↓we_eT, ↓kET_eq, ↓we_if, ↓kIfE_t, ↓kIfE_f, ↓we_chain, ↓kCh1_eq, ↓kCh2_eq, ↓kCh3_eq, ↓kCh4_eq, ↓kCh5_t, ↓kCh5_f, ↓wfs_nil, ↓wfs_cons, ↓kFs1_eq, ↓kFs2_eq, ↓we_tup, ↓we_lst, ↓kTup_eq, ↓kTupb_eq, ↓kLst_eq, ↓kLstb_eq, ↓we_dict, ↓kDict_eq, ↓kDictb_nil, ↓we_dictT, ↓kDictT_eq, ↓kDictTb_2, ↓wa_pairs0, ↓wa_pairs, ↓wo_no, ↓wo_sm, ↓kSm_eq, ↓we_sl, ↓kSl1_eq, ↓kSl2_eq, ↓kSl3_eq, ↓kSl4_eq, ↓we_m0, ↓we_m1, ↓kM0_eq, ↓kM1_eq, ↓kM1b_eq, ↓kM1c_eq, ↓wg_slot, ↓kGSlot_eq, ↓wgs_nil, ↓wgs_cons, ↓kGs_eq, ↓wg_unp, ↓wi_any, ↓kIAnyA_eq, ↓kIAny_l, ↓kIAny_t, ↓kIAny_s, ↓wi_r1, ↓wi_r2, ↓kR1_eq, ↓kR2_eq, ↓kR2a_eq, ↓we_lc, ↓kLc_eq, ↓kLcE_eq, ↓kLcF_eq, ↓kLcR_eq, ↓kLcT_eq, ↓kLcB_t, ↓kLcB_f, ↓wt_yes, ↓ws_skip, ↓ws_seq, ↓kSeq_nx, ↓kSeq_rt, ↓kSeq_bk, ↓kSeq_ct, ↓ws_expr, ↓kExpr_eq, ↓ws_set, ↓kSet_eq, ↓kSetL_eq, ↓kSetV_fz, ↓kSetV_own, ↓kSetV_plc, ↓kSetP_own, ↓kSetP_ref, ↓kSetP_fz, ↓ws_asg, ↓kAsg_fz, ↓kAsgB_eq, ↓ws_ret, ↓kRet_fz, ↓kRet_own, ↓kRet_plc, ↓kRetP_own, ↓kRetP_ref, ↓ws_retN, ↓ws_if, ↓kIf_t, ↓kIf_f, ↓ws_brk, ↓ws_cnt, ↓ws_for, ↓kFor_eq, ↓kLoop_nx, ↓kLoop_ct, ↓kLoop_bk, ↓kLoop_rt, ↓kBody_eq, ↓wl_eq, ↓kOwnL_own, ↓kOwnL_ref, ↓ws_setIx, ↓kSI1_eq, ↓kSI2_eq, ↓kSI3_eq, ↓kSI4_eq, ↓kSI5_eq, ↓we_app, ↓kAp0_eq, ↓kAp1_eq, ↓kAp2_eq, ↓kAp3_eq, ↓we_user, ↓kUsr_eq, ↓kUsr1_eq, ↓kUsr2_eq, ↓kUsr3_fz, ↓kUsr3_own, ↓warg_nil, ↓warg_fz, ↓warg_own, ↓warg_plc, ↓kArg1_eq, ↓kArg2_eq, ↓kArgP_own, ↓kArgP_ref, ↓kArgP_fz, ↓kArgP_rfz, ↓wc_run, ↓kRun_rt, ↓kRun_nx, ↓kRunR_fz, ↓kRunR_own, ↓wex_nil, ↓wex_fz, ↓wex_ref, ↓wex_rfz, ↓kEx_eq, ↓we_rev, ↓kRev0_eq, ↓kRev_l, ↓wk_eq, ↓kOwnK_own, ↓kOwnK_ref, ↓ws_setKey, ↓kSK1_eq, ↓kSK2_eq, ↓kSK3_eq, ↓kSK4_s, ↓kSK4_i, ↓kSK5_eq, ↓kSK6_eq, ↓we_get1, ↓kG1_eq, ↓kG2_d, ↓kG3_eq, ↓kG4_d, ↓kG5_s, ↓kG5_i, ↓we_get2, ↓kH1_eq, ↓kH2_d, ↓kH3_eq, ↓kH3b_eq, ↓kH4_d, ↓kH5_s, ↓kH5_i, ↓kWh_t, ↓kWh_f, ↓ws_while, ↓we_ext, ↓kEx0_eq, ↓kEx1_eq, ↓kEx3_eq, ↓kJ_nx, ↓kJ_rt, ↓kJ_bk, ↓kJ_ct, ↓kIs_eq, ↓kIsE_eq, wp_some, backSVs_nil, backSVs_cons, lock_unb, lock_fz, lock_own, plain_fz, plain_own, enter_fz, enter_own, put_ownE, put_refE, back_oo, back_of, back_ro, back_rf, back_fz, back_rfz, freeze_own, freeze_ref, freeze_fz, backAt_eq, findSV_nil, findSV_nil2, findSV_plc, findSV_fz, findSV_own, apart_nil, apart_fz, apart_own, apart_plc, placed_nil, placed_fz, placed_own, placed_plc, wipeE_nil, wipeE_cons, backE_nil, backE_cons, unlocked_nil, unlocked_cons, List.set_cons_zero, List.set_cons_succ, List.getD_cons_zero, List.getD_cons_succ, List.getElem?_cons_zero, List.getElem?_cons_succ, List.map_cons, List.map_nil, List.cons_append, List.nil_append, List.replicate_succ, List.replicate_zero, List.length_cons, List.length_nil, List.all_cons, List.all_nil, Nat.reduceSub, Nat.reduceAdd, Nat.reduceLeDiff, Nat.reduceEqDiff, Nat.reduceLT, Nat.zero_add, Bool.not_true, Bool.not_false, Bool.and_true, Bool.true_and, Bool.and_self, and_true, true_and, if_true, reduceIte, reduceCtorEq, decide_true, decide_false, Bool.false_eq_true, Bool.or_false, Bool.or_true, Bool.false_or, Bool.true_or, Bool.and_false, Bool.false_and, Nat.le_refl, lineN, Nat.one_ne_zero, Nat.zero_ne_one, addD_i, subD_i, negD_i, cmpI_i, eqD_i, neD_i, eqD_s, neD_s, eqD_b, neD_b, isD_n, isD_b, isNotD_n, isNotD_b, isBool_b, isNone_n, isNone_b, isNone_i, isNone_s, isNone_l, isNone_t, isNone_d, isi_eq, lenD_l, lenD_t, absD_n, maxD_m, minD_m, intD_i, listD_l, listD_t, tupleD_l, tupleD_t, isiB, mulSD_i, divD_i, modD_i, powD_i, ixD_l, ixD_t, ixD_s, slD_l, slD_t, slD_s, lenD_s, addD_s, addD_l, addD_t, strD_i, wp_bind, wp_guard, atI_0, atI_1, atI_2, atI_3, atI_4, ixN_0, ixN_1, ixN_2, Int.reduceNeg, Int.reduceSub, Int.reduceAdd, listD_s, tupleD_s, mulSD_s, small64_eq, decide_eq_true_eq, or_true, true_or, Int.reducePow, Int.reduceToNat, Int.reduceLE, Int.reduceLT, Int.reduceMul, Int.reduceEq, Int.zero_add, Nat.reducePow, Nat.reduceMul, Int.reduceAbs, rangeD_1, rangeD_2, rangeD_3, sortedD_l, maxLD_l, minLD_l, sumLD_l, reprD_1, ixD_ds, ixD_di, inD_ds, inD_di, notInD_ds, notInD_di, dictPD_l, intsOf_nil, intsOf_cons, Option.bind_some, List.max?_cons', List.min?_cons', List.foldl_cons, List.foldl_nil, kDictb_s, kDictb_int, Int.cast_ofNat_Int, upperD_eq, cutS_S, S_cps, S_len', SX.S_len, SX.S_cat, S_mk, repS_S, inD_S, notInD_S, signD_S, ixD_S, cutG_none, cutG_but, cutD_G, lit_0, lit_1, lit_2, lit_3, lit_4])
          exact k
        · obtain ⟨a1, a2, rfl, _, _⟩ := spotB_is ha
          obtain ⟨b1, b2, rfl, _, _⟩ := spotB_is hb
          have e : boxB (.tuple [.tuple [.int a1, .int a2], .tuple [.int b1, .int b2]]) = (decide (a1 ≤ b1) && decide (a2 ≤ b2)) := by
            show (spotB (.tuple [.int a1, .int a2]) && spotB (.tuple [.int b1, .int b2]) && leB (.tuple [.int a1, .int a2]) (.tuple [.int b1, .int b2])) = _
            rw [ha, hb, leB_tt, Bool.and_self, Bool.true_and]
          rw [e] at k
          (try simp only [↓wx_0, ↓wx_s, ↓wv_fz, ↓wv_own, ↓wv_plc, ↓kView_fz, ↓kView_own, ↓kView_ref, ↓kView_rfz, ↓wf_fz, ↓wf_own, ↓wf_plc, ↓kFix_fz, ↓kFix_rfz, ↓kFix_own, ↓kFix_ref, ↓we_lit, ↓we_slot, ↓kSlot_fz, ↓kSlot_rfz, ↓kSlot_own, ↓kSlot_ref, ↓wa_nil, ↓wa_cons, ↓kCons1_eq, ↓kCons2_eq, ↓wvs_nil, ↓wvs_cons, ↓kVs1_eq, ↓kVs2_eq, ↓we_op2, ↓kOp2a_eq, ↓kOp2b_eq, ↓kOp2c_eq, ↓kOp2d_eq, ↓we_op1, ↓kOp1a_eq, ↓kOp1b_eq, ↓we_call, ↓kCalla_eq, ↓kCallb_eq, ↓wt_asT, ↓kAsT_eq, ↓wt_and, ↓wt_or, ↓wt_not, ↓kAnd_t, ↓kAnd_f, ↓kOr_t, ↓kOr_f, ↓kNot_eq, ↓we_eT, ↓kET_eq, ↓we_if, ↓kIfE_t, ↓kIfE_f, ↓we_chain, ↓kCh1_eq, ↓kCh2_eq, ↓kCh3_eq, ↓kCh4_eq, ↓kCh5_t, ↓kCh5_f, ↓wfs_nil, ↓wfs_cons, ↓kFs1_eq, ↓kFs2_eq, ↓we_tup, ↓we_lst, ↓kTup_eq, ↓kTupb_eq, ↓kLst_eq, ↓kLstb_eq, ↓we_dict, ↓kDict_eq, ↓kDictb_nil, ↓we_dictT, ↓kDictT_eq, ↓kDictTb_2, ↓wa_pairs0, ↓wa_pairs, ↓wo_no, ↓wo_sm, ↓kSm_eq, ↓we_sl, ↓kSl1_eq, ↓kSl2_eq, ↓kSl3_eq, ↓kSl4_eq, ↓we_m0, ↓we_m1, ↓kM0_eq, ↓kM1_eq, ↓kM1b_eq, ↓kM1c_eq, ↓wg_slot, ↓kGSlot_eq, ↓wgs_nil, ↓wgs_cons, ↓kGs_eq, ↓wg_unp, ↓wi_any, ↓kIAnyA_eq, ↓kIAny_l, ↓kIAny_t, ↓kIAny_s, ↓wi_r1, ↓wi_r2, ↓kR1_eq, ↓kR2_eq, ↓kR2a_eq, ↓we_lc, ↓kLc_eq, ↓kLcE_eq, ↓kLcF_eq, ↓kLcR_eq, ↓kLcT_eq, ↓kLcB_t, ↓kLcB_f, ↓wt_yes, ↓ws_skip, ↓ws_seq, ↓kSeq_nx, ↓kSeq_rt, ↓kSeq_bk, ↓kSeq_ct, ↓ws_expr, ↓kExpr_eq, ↓ws_set, ↓kSet_eq, ↓kSetL_eq, ↓kSetV_fz, ↓kSetV_own, ↓kSetV_plc, ↓kSetP_own, ↓kSetP_ref, ↓kSetP_fz, ↓ws_asg, ↓kAsg_fz, ↓kAsgB_eq, ↓ws_ret, ↓kRet_fz, ↓kRet_own, ↓kRet_plc, ↓kRetP_own, ↓kRetP_ref, ↓ws_retN, ↓ws_if, ↓kIf_t, ↓kIf_f, ↓ws_brk, ↓ws_cnt, ↓ws_for, ↓kFor_eq, ↓kLoop_nx, ↓kLoop_ct, ↓kLoop_bk, ↓kLoop_rt, ↓kBody_eq, ↓wl_eq, ↓kOwnL_own, ↓kOwnL_ref, ↓ws_setIx, ↓kSI1_eq, ↓kSI2_eq, ↓kSI3_eq, ↓kSI4_eq, ↓kSI5_eq, ↓we_app, ↓kAp0_eq, ↓kAp1_eq, ↓kAp2_eq, ↓kAp3_eq, ↓we_user, ↓kUsr_eq, ↓kUsr1_eq, ↓kUsr2_eq, ↓kUsr3_fz, ↓kUsr3_own, ↓warg_nil, ↓warg_fz, ↓warg_own, ↓warg_plc, ↓kArg1_eq, ↓kArg2_eq, ↓kArgP_own, ↓kArgP_ref, ↓kArgP_fz, ↓kArgP_rfz, ↓wc_run, ↓kRun_rt, ↓kRun_nx, ↓kRunR_fz, ↓kRunR_own, ↓wex_nil, ↓wex_fz, ↓wex_ref, ↓wex_rfz, ↓kEx_eq, ↓we_rev, ↓kRev0_eq, ↓kRev_l, ↓wk_eq, ↓kOwnK_own, ↓kOwnK_ref, ↓ws_setKey, ↓kSK1_eq, ↓kSK2_eq, ↓kSK3_eq, ↓kSK4_s, ↓kSK4_i, ↓kSK5_eq, ↓kSK6_eq, ↓we_get1, ↓kG1_eq, ↓kG2_d, ↓kG3_eq, ↓kG4_d, ↓kG5_s, ↓kG5_i, ↓we_get2, ↓kH1_eq, ↓kH2_d, ↓kH3_eq, ↓kH3b_eq, ↓kH4_d, ↓kH5_s, ↓kH5_i, ↓kWh_t, ↓kWh_f, ↓ws_while, ↓we_ext, ↓kEx0_eq, ↓kEx1_eq, ↓kEx3_eq, ↓kJ_nx, ↓kJ_rt, ↓kJ_bk, ↓kJ_ct, ↓kIs_eq, ↓kIsE_eq, wp_some, backSVs_nil, backSVs_cons, lock_unb, lock_fz, lock_own, plain_fz, plain_own, enter_fz, enter_own, put_ownE, put_refE, back_oo, back_of, back_ro, back_rf, back_fz, back_rfz, freeze_own, freeze_ref, freeze_fz, backAt_eq, findSV_nil, findSV_nil2, findSV_plc, findSV_fz, findSV_own, apart_nil, apart_fz, apart_own, apart_plc, placed_nil, placed_fz, placed_own, placed_plc, wipeE_nil, wipeE_cons, backE_nil, backE_cons, unlocked_nil, unlocked_cons, List.set_cons_zero, List.set_cons_succ, List.getD_cons_zero, List.getD_cons_succ, List.getElem?_cons_zero, List.getElem?_cons_succ, List.map_cons, List.map_nil, List.cons_append, List.nil_append, List.replicate_succ, List.replicate_zero, List.length_cons, List.length_nil, List.all_cons, List.all_nil, Nat.reduceSub, Nat.reduceAdd, Nat.reduceLeDiff, Nat.reduceEqDiff, Nat.reduceLT, Nat.zero_add, Bool.not_true, Bool.not_false, Bool.and_true, Bool.true_and, Bool.and_self, and_true, true_and, if_true, reduceIte, reduceCtorEq, decide_true, decide_false, Bool.false_eq_true, Bool.or_false, Bool.or_true, Bool.false_or, Bool.true_or, Bool.and_false, Bool.false_and, Nat.le_refl, lineN, Nat.one_ne_zero, Nat.zero_ne_one, addD_i, subD_i, negD_i, cmpI_i, eqD_i, neD_i, eqD_s, neD_s, eqD_b, neD_b, isD_n, isD_b, isNotD_n, isNotD_b, isBool_b, isNone_n, isNone_b, isNone_i, isNone_s, isNone_l, isNone_t, isNone_d, isi_eq, lenD_l, lenD_t, absD_n, maxD_m, minD_m, intD_i, listD_l, listD_t, tupleD_l, tupleD_t, isiB, mulSD_i, divD_i, modD_i, powD_i, ixD_l, ixD_t, ixD_s, slD_l, slD_t, slD_s, lenD_s, addD_s, addD_l, addD_t, strD_i, wp_bind, wp_guard, atI_0, atI_1, atI_2, atI_3, atI_4, ixN_0, ixN_1, ixN_2, Int.reduceNeg, Int.reduceSub, Int.reduceAdd, listD_s, tupleD_s, mulSD_s, small64_eq, decide_eq_true_eq, or_true, true_or, Int.reducePow, Int.reduceToNat, Int.reduceLE, Int.reduceLT, Int.reduceMul, Int.reduceEq, Int.zero_add, Nat.reducePow, Nat.reduceMul, Int.reduceAbs, rangeD_1, rangeD_2, rangeD_3, sortedD_l, maxLD_l, minLD_l, sumLD_l, reprD_1, ixD_ds, ixD_di, inD_ds, inD_di, notInD_ds, notInD_di, dictPD_l, intsOf_nil, intsOf_cons, Option.bind_some, List.max?_cons', List.min?_cons', List.foldl_cons, List.foldl_nil, kDictb_s, kDictb_int, Int.cast_ofNat_Int, upperD_eq, cutS_S, S_cps, S_len', SX.S_len, SX.S_cat, S_mk, repS_S, inD_S, notInD_S, signD_S, ixD_S, cutG_none, cutG_but, cutD_G, lit_0, lit_1, lit_2, lit_3, lit_4])
          cases h1 : decide (a1 ≤ b1)
          · rw [h1] at k
            (try simp only [↓wx_0, ↓wx_s, ↓wv_fz, ↓wv_own, ↓wv_plc, ↓kView_fz, ↓kView_own, ↓kView_ref, ↓kView_rfz, ↓wf_fz, ↓wf_own, ↓wf_plc, ↓kFix_fz, ↓kFix_rfz, ↓kFix_own, ↓kFix_ref, ↓we_lit, ↓we_slot, ↓kSlot_fz, ↓kSlot_rfz, ↓kSlot_own, ↓kSlot_ref, ↓wa_nil, ↓wa_cons, ↓kCons1_eq, ↓kCons2_eq, ↓wvs_nil, ↓wvs_cons, ↓kVs1_eq, ↓kVs2_eq, ↓we_op2, ↓kOp2a_eq, ↓kOp2b_eq, ↓kOp2c_eq, ↓kOp2d_eq, ↓we_op1, ↓kOp1a_eq, ↓kOp1b_eq, ↓we_call, ↓kCalla_eq, ↓kCallb_eq, ↓wt_asT, ↓kAsT_eq, ↓wt_and, ↓wt_or, ↓wt_not, ↓kAnd_t, ↓kAnd_f, ↓kOr_t, ↓kOr_f, ↓kNot_eq, ↓we_eT, ↓kET_eq, ↓we_if, ↓kIfE_t, ↓kIfE_f, ↓we_chain, ↓kCh1_eq, ↓kCh2_eq, ↓kCh3_eq, ↓kCh4_eq, ↓kCh5_t, ↓kCh5_f, ↓wfs_nil, ↓wfs_cons, ↓kFs1_eq, ↓kFs2_eq, ↓we_tup, ↓we_lst, ↓kTup_eq, ↓kTupb_eq, ↓kLst_eq, ↓kLstb_eq, ↓we_dict, ↓kDict_eq, ↓kDictb_nil, ↓we_dictT, ↓kDictT_eq, ↓kDictTb_2, ↓wa_pairs0, ↓wa_pairs, ↓wo_no, ↓wo_sm, ↓kSm_eq, ↓we_sl, ↓kSl1_eq, ↓kSl2_eq, ↓kSl3_eq, ↓kSl4_eq, ↓we_m0, ↓we_m1, ↓kM0_eq, ↓kM1_eq, ↓kM1b_eq, ↓kM1c_eq, ↓wg_slot, ↓kGSlot_eq, ↓wgs_nil, ↓wgs_cons, ↓kGs_eq, ↓wg_unp, ↓wi_any, ↓kIAnyA_eq, ↓kIAny_l, ↓kIAny_t, ↓kIAny_s, ↓wi_r1, ↓wi_r2, ↓kR1_eq, ↓kR2_eq, ↓kR2a_eq, ↓we_lc, ↓kLc_eq, ↓kLcE_eq, ↓kLcF_eq, ↓kLcR_eq, ↓kLcT_eq, ↓kLcB_t, ↓kLcB_f, ↓wt_yes, ↓ws_skip, ↓ws_seq, ↓kSeq_nx, ↓kSeq_rt, ↓kSeq_bk, ↓kSeq_ct, ↓ws_expr, ↓kExpr_eq, ↓ws_set, ↓kSet_eq, ↓kSetL_eq, ↓kSetV_fz, ↓kSetV_own, ↓kSetV_plc, ↓kSetP_own, ↓kSetP_ref, ↓kSetP_fz, ↓ws_asg, ↓kAsg_fz, ↓kAsgB_eq, ↓ws_ret, ↓kRet_fz, ↓kRet_own, ↓kRet_plc, ↓kRetP_own, ↓kRetP_ref, ↓ws_retN, ↓ws_if, ↓kIf_t, ↓kIf_f, ↓ws_brk, ↓ws_cnt, ↓ws_for, ↓kFor_eq, ↓kLoop_nx, ↓kLoop_ct, ↓kLoop_bk, ↓kLoop_rt, ↓kBody_eq, ↓wl_eq, ↓kOwnL_own, ↓kOwnL_ref, ↓ws_setIx, ↓kSI1_eq, ↓kSI2_eq, ↓kSI3_eq, ↓kSI4_eq, ↓kSI5_eq, ↓we_app, ↓kAp0_eq, ↓kAp1_eq, ↓kAp2_eq, ↓kAp3_eq, ↓we_user, ↓kUsr_eq, ↓kUsr1_eq, ↓kUsr2_eq, ↓kUsr3_fz, ↓kUsr3_own, ↓warg_nil, ↓warg_fz, ↓warg_own, ↓warg_plc, ↓kArg1_eq, ↓kArg2_eq, ↓kArgP_own, ↓kArgP_ref, ↓kArgP_fz, ↓kArgP_rfz, ↓wc_run, ↓kRun_rt, ↓kRun_nx, ↓kRunR_fz, ↓kRunR_own, ↓wex_nil, ↓wex_fz, ↓wex_ref, ↓wex_rfz, ↓kEx_eq, ↓we_rev, ↓kRev0_eq, ↓kRev_l, ↓wk_eq, ↓kOwnK_own, ↓kOwnK_ref, ↓ws_setKey, ↓kSK1_eq, ↓kSK2_eq, ↓kSK3_eq, ↓kSK4_s, ↓kSK4_i, ↓kSK5_eq, ↓kSK6_eq, ↓we_get1, ↓kG1_eq, ↓kG2_d, ↓kG3_eq, ↓kG4_d, ↓kG5_s, ↓kG5_i, ↓we_get2, ↓kH1_eq, ↓kH2_d, ↓kH3_eq, ↓kH3b_eq, ↓kH4_d, ↓kH5_s, ↓kH5_i, ↓kWh_t, ↓kWh_f, ↓ws_while, ↓we_ext, ↓kEx0_eq, ↓kEx1_eq, ↓kEx3_eq, ↓kJ_nx, ↓kJ_rt, ↓kJ_bk, ↓kJ_ct, ↓kIs_eq, ↓kIsE_eq, wp_some, backSVs_nil, backSVs_cons, lock_unb, lock_fz, lock_own, plain_fz, plain_own, enter_fz, enter_own, put_ownE, put_refE, back_oo, back_of, back_ro, back_rf, back_fz, back_rfz, freeze_own, freeze_ref, freeze_fz, backAt_eq, findSV_nil, findSV_nil2, findSV_plc, findSV_fz, findSV_own, apart_nil, apart_fz, apart_own, apart_plc, placed_nil, placed_fz, placed_own, placed_plc, wipeE_nil, wipeE_cons, backE_nil, backE_cons, unlocked_nil, unlocked_cons, List.set_cons_zero, List.set_cons_succ, List.getD_cons_zero, List.getD_cons_succ, List.getElem?_cons_zero, List.getElem?_cons_succ, List.map_cons, List.map_nil, List.cons_append, List.nil_append, List.replicate_succ, List.replicate_zero, List.length_cons, List.length_nil, List.all_cons, List.all_nil, Nat.reduceSub, Nat.reduceAdd, Nat.reduceLeDiff, Nat.reduceEqDiff, Nat.reduceLT, Nat.zero_add, Bool.not_true, Bool.not_false, Bool.and_true, Bool.true_and, Bool.and_self, and_true, true_and, if_true, reduceIte, reduceCtorEq, decide_true, decide_false, Bool.false_eq_true, Bool.or_false, Bool.or_true, Bool.false_or, Bool.true_or, Bool.and_false, Bool.false_and, Nat.le_refl, lineN, Nat.one_ne_zero, Nat.zero_ne_one, addD_i, subD_i, negD_i, cmpI_i, eqD_i, neD_i, eqD_s, neD_s, eqD_b, neD_b, isD_n, isD_b, isNotD_n, isNotD_b, isBool_b, isNone_n, isNone_b, isNone_i, isNone_s, isNone_l, isNone_t, isNone_d, isi_eq, lenD_l, lenD_t, absD_n, maxD_m, minD_m, intD_i, listD_l, listD_t, tupleD_l, tupleD_t, isiB, mulSD_i, divD_i, modD_i, powD_i, ixD_l, ixD_t, ixD_s, slD_l, slD_t, slD_s, lenD_s, addD_s, addD_l, addD_t, strD_i, wp_bind, wp_guard, atI_0, atI_1, atI_2, atI_3, atI_4, ixN_0, ixN_1, ixN_2, Int.reduceNeg, Int.reduceSub, Int.reduceAdd, listD_s, tupleD_s, mulSD_s, small64_eq, decide_eq_true_eq, or_true, true_or, Int.reducePow, Int.reduceToNat, Int.reduceLE, Int.reduceLT, Int.reduceMul, Int.reduceEq, Int.zero_add, Nat.reducePow, Nat.reduceMul, Int.reduceAbs, rangeD_1, rangeD_2, rangeD_3, sortedD_l, maxLD_l, minLD_l, sumLD_l, reprD_1, ixD_ds, ixD_di, inD_ds, inD_di, notInD_ds, notInD_di, dictPD_l, intsOf_nil, intsOf_cons, Option.bind_some, List.max?_cons', List.min?_cons', List.foldl_cons, List.foldl_nil, kDictb_s, kDictb_int, Int.cast_ofNat_Int, upperD_eq, cutS_S, S_cps, S_len', SX.S_len, SX.S_cat, S_mk, repS_S, inD_S, notInD_S, signD_S, ixD_S, cutG_none, cutG_but, cutD_G, lit_0, lit_1, lit_2, lit_3, lit_4])
            exact k
          · rw [h1] at k
            (try simp only [↓wx_0, ↓wx_s, ↓wv_fz, ↓wv_own, ↓wv_plc, ↓kView_fz, ↓kView_own, ↓kView_ref, ↓kView_rfz, ↓wf_fz, ↓wf_own, ↓wf_plc, ↓kFix_fz, ↓kFix_rfz, ↓kFix_own, ↓kFix_ref, ↓we_lit, ↓we_slot, ↓kSlot_fz, ↓kSlot_rfz, ↓kSlot_own, ↓kSlot_ref, ↓wa_nil, ↓wa_cons, ↓kCons1_eq, ↓kCons2_eq, ↓wvs_nil, ↓wvs_cons, ↓kVs1_eq, ↓kVs2_eq, ↓we_op2, ↓kOp2a_eq, ↓kOp2b_eq, ↓kOp2c_eq, ↓kOp2d_eq, ↓we_op1, ↓kOp1a_eq, ↓kOp1b_eq, ↓we_call, ↓kCalla_eq, ↓kCallb_eq, ↓wt_asT, ↓kAsT_eq, ↓wt_and, ↓wt_or, ↓wt_not, ↓kAnd_t, ↓kAnd_f, ↓kOr_t, ↓kOr_f, ↓kNot_eq, ↓we_eT, ↓kET_eq, ↓we_if, ↓kIfE_t, ↓kIfE_f, ↓we_chain, ↓kCh1_eq, ↓kCh2_eq, ↓kCh3_eq, ↓kCh4_eq, ↓kCh5_t, ↓kCh5_f, ↓wfs_nil, ↓wfs_cons, ↓kFs1_eq, ↓kFs2_eq, ↓we_tup, ↓we_lst, ↓kTup_eq, ↓kTupb_eq, ↓kLst_eq, ↓kLstb_eq, ↓we_dict, ↓kDict_eq, ↓kDictb_nil, ↓we_dictT, ↓kDictT_eq, ↓kDictTb_2, ↓wa_pairs0, ↓wa_pairs, ↓wo_no, ↓wo_sm, ↓kSm_eq, ↓we_sl, ↓kSl1_eq, ↓kSl2_eq, ↓kSl3_eq, ↓kSl4_eq, ↓we_m0, ↓we_m1, ↓kM0_eq, ↓kM1_eq, ↓kM1b_eq, ↓kM1c_eq, ↓wg_slot, ↓kGSlot_eq, ↓wgs_nil, ↓wgs_cons, ↓kGs_eq, ↓wg_unp, ↓wi_any, ↓kIAnyA_eq, ↓kIAny_l, ↓kIAny_t, ↓kIAny_s, ↓wi_r1, ↓wi_r2, ↓kR1_eq, ↓kR2_eq, ↓kR2a_eq, ↓we_lc, ↓kLc_eq, ↓kLcE_eq, ↓kLcF_eq, ↓kLcR_eq, ↓kLcT_eq, ↓kLcB_t, ↓kLcB_f, ↓wt_yes, ↓ws_skip, ↓ws_seq, ↓kSeq_nx, ↓kSeq_rt, ↓kSeq_bk, ↓kSeq_ct, ↓ws_expr, ↓kExpr_eq, ↓ws_set, ↓kSet_eq, ↓kSetL_eq, ↓kSetV_fz, ↓kSetV_own, ↓kSetV_plc, ↓kSetP_own, ↓kSetP_ref, ↓kSetP_fz, ↓ws_asg, ↓kAsg_fz, ↓kAsgB_eq, ↓ws_ret, ↓kRet_fz, ↓kRet_own, ↓kRet_plc, ↓kRetP_own, ↓kRetP_ref, ↓ws_retN, ↓ws_if, ↓kIf_t, ↓kIf_f, ↓ws_brk, ↓ws_cnt, ↓ws_for, ↓kFor_eq, ↓kLoop_nx, ↓kLoop_ct, ↓kLoop_bk, ↓kLoop_rt, ↓kBody_eq, ↓wl_eq, ↓kOwnL_own, ↓kOwnL_ref, ↓ws_setIx, ↓kSI1_eq, ↓kSI2_eq, ↓kSI3_eq, ↓kSI4_eq, ↓kSI5_eq, ↓we_app, ↓kAp0_eq, ↓kAp1_eq, ↓kAp2_eq, ↓kAp3_eq, ↓we_user, ↓kUsr_eq, ↓kUsr1_eq, ↓kUsr2_eq, ↓kUsr3_fz, ↓kUsr3_own, ↓warg_nil, ↓warg_fz, ↓warg_own, ↓warg_plc, ↓kArg1_eq, ↓kArg2_eq, ↓kArgP_own, ↓kArgP_ref, ↓kArgP_fz, ↓kArgP_rfz, ↓wc_run, ↓kRun_rt, ↓kRun_nx, ↓kRunR_fz, ↓kRunR_own, ↓wex_nil, ↓wex_fz, ↓wex_ref, ↓wex_rfz, ↓kEx_eq, ↓we_rev, ↓kRev0_eq, ↓kRev_l, ↓wk_eq, ↓kOwnK_own, ↓kOwnK_ref, ↓ws_setKey, ↓kSK1_eq, ↓kSK2_eq, ↓kSK3_eq, ↓kSK4_s, ↓kSK4_i, ↓kSK5_eq, ↓kSK6_eq, ↓we_get1, ↓kG1_eq, ↓kG2_d, ↓kG3_eq, ↓kG4_d, ↓kG5_s, ↓kG5_i, ↓we_get2, ↓kH1_eq, ↓kH2_d, ↓kH3_eq, ↓kH3b_eq, ↓kH4_d, ↓kH5_s, ↓kH5_i, ↓kWh_t, ↓kWh_f, ↓ws_while, ↓we_ext, ↓kEx0_eq, ↓kEx1_eq, ↓kEx3_eq, ↓kJ_nx, ↓kJ_rt, ↓kJ_bk, ↓kJ_ct, ↓kIs_eq, ↓kIsE_eq, wp_some, backSVs_nil, backSVs_cons, lock_unb, lock_fz, lock_own, plain_fz, plain_own, enter_fz, enter_own, put_ownE, put_refE, back_oo, back_of, back_ro, back_rf, back_fz, back_rfz, freeze_own, freeze_ref, freeze_fz, backAt_eq, findSV_nil, findSV_nil2, findSV_plc, findSV_fz, findSV_own, apart_nil, apart_fz, apart_own, apart_plc, placed_nil, placed_fz, placed_own, placed_plc, wipeE_nil, wipeE_cons, backE_nil, backE_cons, unlocked_nil, unlocked_cons, List.set_cons_zero, List.set_cons_succ, List.getD_cons_zero, List.getD_cons_succ, List.getElem?_cons_zero, List.getElem?_cons_succ, List.map_cons, List.map_nil, List.cons_append, List.nil_append, List.replicate_succ, List.replicate_zero, List.length_cons, List.length_nil, List.all_cons, List.all_nil, Nat.reduceSub, Nat.reduceAdd, Nat.reduceLeDiff, Nat.reduceEqDiff, Nat.reduceLT, Nat.zero_add, Bool.not_true, Bool.not_false, Bool.and_true, Bool.true_and, Bool.and_self, and_true, true_and, if_true, reduceIte, reduceCtorEq, decide_true, decide_false, Bool.false_eq_true, Bool.or_false, Bool.or_true, Bool.false_or, Bool.true_or, Bool.and_false, Bool.false_and, Nat.le_refl, lineN, Nat.one_ne_zero, Nat.zero_ne_one, addD_i, subD_i, negD_i, cmpI_i, eqD_i, neD_i, eqD_s, neD_s, eqD_b, neD_b, isD_n, isD_b, isNotD_n, isNotD_b, isBool_b, isNone_n, isNone_b, isNone_i, isNone_s, isNone_l, isNone_t, isNone_d, isi_eq, lenD_l, lenD_t, absD_n, maxD_m, minD_m, intD_i, listD_l, listD_t, tupleD_l, tupleD_t, isiB, mulSD_i, divD_i, modD_i, powD_i, ixD_l, ixD_t, ixD_s, slD_l, slD_t, slD_s, lenD_s, addD_s, addD_l, addD_t, strD_i, wp_bind, wp_guard, atI_0, atI_1, atI_2, atI_3, atI_4, ixN_0, ixN_1, ixN_2, Int.reduceNeg, Int.reduceSub, Int.reduceAdd, listD_s, tupleD_s, mulSD_s, small64_eq, decide_eq_true_eq, or_true, true_or, Int.reducePow, Int.reduceToNat, Int.reduceLE, Int.reduceLT, Int.reduceMul, Int.reduceEq, Int.zero_add, Nat.reducePow, Nat.reduceMul, Int.reduceAbs, rangeD_1, rangeD_2, rangeD_3, sortedD_l, maxLD_l, minLD_l, sumLD_l, reprD_1, ixD_ds, ixD_di, inD_ds, inD_di, notInD_ds, notInD_di, dictPD_l, intsOf_nil, intsOf_cons, Option.bind_some, List.max?_cons', List.min?_cons', List.foldl_cons, List.foldl_nil, kDictb_s, kDictb_int, Int.cast_ofNat_Int, upperD_eq, cutS_S, S_cps, S_len', SX.S_len, SX.S_cat, S_mk, repS_S, inD_S, notInD_S, signD_S, ixD_S, cutG_none, cutG_but, cutD_G, lit_0, lit_1, lit_2, lit_3, lit_4])
            exact k
    | [], _, _, k =>
      (try simp only [↓wx_0, ↓wx_s, ↓wv_fz, ↓wv_own, ↓wv_plc, ↓kView_fz, ↓kView_own, ↓kView_ref, ↓kView_rfz, ↓wf_fz, ↓wf_own, ↓wf_plc, ↓kFix_fz, ↓kFix_rfz, ↓kFix_own, ↓kFix_ref, ↓we_lit, ↓we_slot, ↓kSlot_fz, ↓kSlot_rfz, ↓kSlot_own, ↓kSlot_ref, ↓wa_nil, ↓wa_cons, ↓kCons1_eq, ↓kCons2_eq, ↓wvs_nil, ↓wvs_cons, ↓kVs1_eq, ↓kVs2_eq, ↓we_op2, ↓kOp2a_eq, ↓kOp2b_eq, ↓kOp2c_eq, ↓kOp2d_eq, ↓we_op1, ↓kOp1a_eq, ↓kOp1b_eq, ↓we_call, ↓kCalla_eq, ↓kCallb_eq, ↓wt_asT, ↓kAsT_eq, ↓wt_and, ↓wt_or, ↓wt_not, ↓kAnd_t, ↓kAnd_f, ↓kOr_t, ↓kOr_f, ↓kNot_eq, ↓we_eT, ↓kET_eq, ↓we_if, ↓kIfE_t, ↓kIfE_f, ↓we_chain, ↓kCh1_eq, ↓kCh2_eq, ↓kCh3_eq, ↓kCh4_eq, ↓kCh5_t, ↓kCh5_f, ↓wfs_nil, ↓wfs_cons, ↓kFs1_eq, ↓kFs2_eq, ↓we_tup, ↓we_lst, ↓kTup_eq, ↓kTupb_eq, ↓kLst_eq, ↓kLstb_eq, ↓we_dict, ↓kDict_eq, ↓kDictb_nil, ↓we_dictT, ↓kDictT_eq, ↓kDictTb_2, ↓wa_pairs0, ↓wa_pairs, ↓wo_no, ↓wo_sm, ↓kSm_eq, ↓we_sl, ↓kSl1_eq, ↓kSl2_eq, ↓kSl3_eq, ↓kSl4_eq, ↓we_m0, ↓we_m1, ↓kM0_eq, ↓kM1_eq, ↓kM1b_eq, ↓kM1c_eq, ↓wg_slot, ↓kGSlot_eq, ↓wgs_nil, ↓wgs_cons, ↓kGs_eq, ↓wg_unp, ↓wi_any, ↓kIAnyA_eq, ↓kIAny_l, ↓kIAny_t, ↓kIAny_s, ↓wi_r1, ↓wi_r2, ↓kR1_eq, ↓kR2_eq, ↓kR2a_eq, ↓we_lc, ↓kLc_eq, ↓kLcE_eq, ↓kLcF_eq, ↓kLcR_eq, ↓kLcT_eq, ↓kLcB_t, ↓kLcB_f, ↓wt_yes, ↓ws_skip, ↓ws_seq, ↓kSeq_nx, ↓kSeq_rt, ↓kSeq_bk, ↓kSeq_ct, ↓ws_expr, ↓kExpr_eq, ↓ws_set, ↓kSet_eq, ↓kSetL_eq, ↓kSetV_fz, ↓kSetV_own, ↓kSetV_plc, ↓kSetP_own, ↓kSetP_ref, ↓kSetP_fz, ↓ws_asg, ↓kAsg_fz, ↓kAsgB_eq, ↓ws_ret, ↓kRet_fz, ↓kRet_own, ↓kRet_plc, ↓kRetP_own, ↓kRetP_ref, ↓ws_retN, ↓ws_if, ↓kIf_t, ↓kIf_f, ↓ws_brk, ↓ws_cnt, ↓ws_for, ↓kFor_eq, ↓kLoop_nx, ↓kLoop_ct, ↓kLoop_bk, ↓kLoop_rt, ↓kBody_eq, ↓wl_eq, ↓kOwnL_own, ↓kOwnL_ref, ↓ws_setIx, ↓kSI1_eq, ↓kSI2_eq, ↓kSI3_eq, ↓kSI4_eq, ↓kSI5_eq, ↓we_app, ↓kAp0_eq, ↓kAp1_eq, ↓kAp2_eq, ↓kAp3_eq, ↓we_user, ↓kUsr_eq, ↓kUsr1_eq, ↓kUsr2_eq, ↓kUsr3_fz, ↓kUsr3_own, ↓warg_nil, ↓warg_fz, ↓warg_own, ↓warg_plc, ↓kArg1_eq, ↓kArg2_eq, ↓kArgP_own, ↓kArgP_ref, ↓kArgP_fz, ↓kArgP_rfz, ↓wc_run, ↓kRun_rt, ↓kRun_nx, ↓kRunR_fz, ↓kRunR_own, ↓wex_nil, ↓wex_fz, ↓wex_ref, ↓wex_rfz, ↓kEx_eq, ↓we_rev, ↓kRev0_eq, ↓kRev_l, ↓wk_eq, ↓kOwnK_own, ↓kOwnK_ref, ↓ws_setKey, ↓kSK1_eq, ↓kSK2_eq, ↓kSK3_eq, ↓kSK4_s, ↓kSK4_i, ↓kSK5_eq, ↓kSK6_eq, ↓we_get1, ↓kG1_eq, ↓kG2_d, ↓kG3_eq, ↓kG4_d, ↓kG5_s, ↓kG5_i, ↓we_get2, ↓kH1_eq, ↓kH2_d, ↓kH3_eq, ↓kH3b_eq, ↓kH4_d, ↓kH5_s, ↓kH5_i, ↓kWh_t, ↓kWh_f, ↓ws_while, ↓we_ext, ↓kEx0_eq, ↓kEx1_eq, ↓kEx3_eq, ↓kJ_nx, ↓kJ_rt, ↓kJ_bk, ↓kJ_ct, ↓kIs_eq, ↓kIsE_eq, wp_some, backSVs_nil, backSVs_cons, lock_unb, lock_fz, lock_own, plain_fz, plain_own, enter_fz, enter_own, put_ownE, put_refE, back_oo, back_of, back_ro, back_rf, back_fz, back_rfz, freeze_own, freeze_ref, freeze_fz, backAt_eq, findSV_nil, findSV_nil2, findSV_plc, findSV_fz, findSV_own, apart_nil, apart_fz, apart_own, apart_plc, placed_nil, placed_fz, placed_own, placed_plc, wipeE_nil, wipeE_cons, backE_nil, backE_cons, unlocked_nil, unlocked_cons, List.set_cons_zero, List.set_cons_succ, List.getD_cons_zero, List.getD_cons_succ, List.getElem?_cons_zero, List.getElem?_cons_succ, List.map_cons, List.map_nil, List.cons_append, List.nil_append, List.replicate_succ, List.replicate_zero, List.length_cons, List.length_nil, List.all_cons, List.all_nil, Nat.reduceSub, Nat.reduceAdd, Nat.reduceLeDiff, Nat.reduceEqDiff, Nat.reduceLT, Nat.zero_add, Bool.not_true, Bool.not_false, Bool.and_true, Bool.true_and, Bool.and_self, and_true, true_and, if_true, reduceIte, reduceCtorEq, decide_true, decide_false, Bool.false_eq_true, Bool.or_false, Bool.or_true, Bool.false_or, Bool.true_or, Bool.and_false, Bool.false_and, Nat.le_refl, lineN, Nat.one_ne_zero, Nat.zero_ne_one, addD_i, subD_i, negD_i, cmpI_i, eqD_i, neD_i, eqD_s, neD_s, eqD_b, neD_b, isD_n, isD_b, isNotD_n, isNotD_b, isBool_b, isNone_n, isNone_b, isNone_i, isNone_s, isNone_l, isNone_t, isNone_d, isi_eq, lenD_l, lenD_t, absD_n, maxD_m, minD_m, intD_i, listD_l, listD_t, tupleD_l, tupleD_t, isiB, mulSD_i, divD_i, modD_i, powD_i, ixD_l, ixD_t, ixD_s, slD_l, slD_t, slD_s, lenD_s, addD_s, addD_l, addD_t, strD_i, wp_bind, wp_guard, atI_0, atI_1, atI_2, atI_3, atI_4, ixN_0, ixN_1, ixN_2, Int.reduceNeg, Int.reduceSub, Int.reduceAdd, listD_s, tupleD_s, mulSD_s, small64_eq, decide_eq_true_eq, or_true, true_or, Int.reducePow, Int.reduceToNat, Int.reduceLE, Int.reduceLT, Int.reduceMul, Int.reduceEq, Int.zero_add, Nat.reducePow, Nat.reduceMul, Int.reduceAbs, rangeD_1, rangeD_2, rangeD_3, sortedD_l, maxLD_l, minLD_l, sumLD_l, reprD_1, ixD_ds, ixD_di, inD_ds, inD_di, notInD_ds, notInD_di, dictPD_l, intsOf_nil, intsOf_cons, Option.bind_some, List.max?_cons', List.min?_cons', List.foldl_cons, List.foldl_nil, kDictb_s, kDictb_int, Int.cast_ofNat_Int, upperD_eq, cutS_S, S_cps, S_len', SX.S_len, SX.S_cat, S_mk, repS_S, inD_S, notInD_S, signD_S, ixD_S, cutG_none, cutG_but, cutD_G, lit_0, lit_1, lit_2, lit_3, lit_4])
      exact k
    | [a], _, _, k =>
      (try simp only [↓wx_0, ↓wx_s, ↓wv_fz, ↓wv_own, ↓wv_plc, ↓kView_fz, ↓kView_own, ↓kView_ref, ↓kView_rfz, ↓wf_fz, ↓wf_own, ↓wf_plc, ↓kFix_fz, ↓kFix_rfz, ↓kFix_own, ↓kFix_ref, ↓we_lit, ↓we_slot, ↓kSlot_fz, ↓kSlot_rfz, ↓kSlot_own, ↓kSlot_ref, ↓wa_nil, ↓wa_cons, ↓kCons1_eq, ↓kCons2_eq, ↓wvs_nil, ↓wvs_cons, ↓kVs1_eq, ↓kVs2_eq, ↓we_op2, ↓kOp2a_eq, ↓kOp2b_eq, ↓kOp2c_eq, ↓kOp2d_eq, ↓we_op1, ↓kOp1a_eq, ↓kOp1b_eq, ↓we_call, ↓kCalla_eq, ↓kCallb_eq, ↓wt_asT, ↓kAsT_eq, ↓wt_and, ↓wt_or, ↓wt_not, ↓kAnd_t, ↓kAnd_f, ↓kOr_t, ↓kOr_f, ↓kNot_eq, ↓we_eT, ↓kET_eq, ↓we_if, ↓kIfE_t, ↓kIfE_f, ↓we_chain, ↓kCh1_eq, ↓kCh2_eq, ↓kCh3_eq, ↓kCh4_eq, ↓kCh5_t, ↓kCh5_f, ↓wfs_nil, ↓wfs_cons, ↓kFs1_eq, ↓kFs2_eq, ↓we_tup, ↓we_lst, ↓kTup_eq, ↓kTupb_eq, ↓kLst_eq, ↓kLstb_eq, ↓we_dict, ↓kDict_eq, ↓kDictb_nil, ↓we_dictT, ↓kDictT_eq, ↓kDictTb_2, ↓wa_pairs0, ↓wa_pairs, ↓wo_no, ↓wo_sm, ↓kSm_eq, ↓we_sl, ↓kSl1_eq, ↓kSl2_eq, ↓kSl3_eq, ↓kSl4_eq, ↓we_m0, ↓we_m1, ↓kM0_eq, ↓kM1_eq, ↓kM1b_eq, ↓kM1c_eq, ↓wg_slot, ↓kGSlot_eq, ↓wgs_nil, ↓wgs_cons, ↓kGs_eq, ↓wg_unp, ↓wi_any, ↓kIAnyA_eq, ↓kIAny_l, ↓kIAny_t, ↓kIAny_s, ↓wi_r1, ↓wi_r2, ↓kR1_eq, ↓kR2_eq, ↓kR2a_eq, ↓we_lc, ↓kLc_eq, ↓kLcE_eq, ↓kLcF_eq, ↓kLcR_eq, ↓kLcT_eq, ↓kLcB_t, ↓kLcB_f, ↓wt_yes, ↓ws_skip, ↓ws_seq, ↓kSeq_nx, ↓kSeq_rt, ↓kSeq_bk, ↓kSeq_ct, ↓ws_expr, ↓kExpr_eq, ↓ws_set, ↓kSet_eq, ↓kSetL_eq, ↓kSetV_fz, ↓kSetV_own, ↓kSetV_plc, ↓kSetP_own, ↓kSetP_ref, ↓kSetP_fz, ↓ws_asg, ↓kAsg_fz, ↓kAsgB_eq, ↓ws_ret, ↓kRet_fz, ↓kRet_own, ↓kRet_plc, ↓kRetP_own, ↓kRetP_ref, ↓ws_retN, ↓ws_if, ↓kIf_t, ↓kIf_f, ↓ws_brk, ↓ws_cnt, ↓ws_for, ↓kFor_eq, ↓kLoop_nx, ↓kLoop_ct, ↓kLoop_bk, ↓kLoop_rt, ↓kBody_eq, ↓wl_eq, ↓kOwnL_own, ↓kOwnL_ref, ↓ws_setIx, ↓kSI1_eq, ↓kSI2_eq, ↓kSI3_eq, ↓kSI4_eq, ↓kSI5_eq, ↓we_app, ↓kAp0_eq, ↓kAp1_eq, ↓kAp2_eq, ↓kAp3_eq, ↓we_user, ↓kUsr_eq, ↓kUsr1_eq, ↓kUsr2_eq, ↓kUsr3_fz, ↓kUsr3_own, ↓warg_nil, ↓warg_fz, ↓warg_own, ↓warg_plc, ↓kArg1_eq, ↓kArg2_eq, ↓kArgP_own, ↓kArgP_ref, ↓kArgP_fz, ↓kArgP_rfz, ↓wc_run, ↓kRun_rt, ↓kRun_nx, ↓kRunR_fz, ↓kRunR_own, ↓wex_nil, ↓wex_fz, ↓wex_ref, ↓wex_rfz, ↓kEx_eq, ↓we_rev, ↓kRev0_eq, ↓kRev_l, ↓wk_eq, ↓kOwnK_own, ↓kOwnK_ref, ↓ws_setKey, ↓kSK1_eq, ↓kSK2_eq, ↓kSK3_eq, ↓kSK4_s, ↓kSK4_i, ↓kSK5_eq, ↓kSK6_eq, ↓we_get1, ↓kG1_eq, ↓kG2_d, ↓kG3_eq, ↓kG4_d, ↓kG5_s, ↓kG5_i, ↓we_get2, ↓kH1_eq, ↓kH2_d, ↓kH3_eq, ↓kH3b_eq, ↓kH4_d, ↓kH5_s, ↓kH5_i, ↓kWh_t, ↓kWh_f, ↓ws_while, ↓we_ext, ↓kEx0_eq, ↓kEx1_eq, ↓kEx3_eq, ↓kJ_nx, ↓kJ_rt, ↓kJ_bk, ↓kJ_ct, ↓kIs_eq, ↓kIsE_eq, wp_some, backSVs_nil, backSVs_cons, lock_unb, lock_fz, lock_own, plain_fz, plain_own, enter_fz, enter_own, put_ownE, put_refE, back_oo, back_of, back_ro, back_rf, back_fz, back_rfz, freeze_own, freeze_ref, freeze_fz, backAt_eq, findSV_nil, findSV_nil2, findSV_plc, findSV_fz, findSV_own, apart_nil, apart_fz, apart_own, apart_plc, placed_nil, placed_fz, placed_own, placed_plc, wipeE_nil, wipeE_cons, backE_nil, backE_cons, unlocked_nil, unlocked_cons, List.set_cons_zero, List.set_cons_succ, List.getD_cons_zero, List.getD_cons_succ, List.getElem?_cons_zero, List.getElem?_cons_succ, List.map_cons, List.map_nil, List.cons_append, List.nil_append, List.replicate_succ, List.replicate_zero, List.length_cons, List.length_nil, List.all_cons, List.all_nil, Nat.reduceSub, Nat.reduceAdd, Nat.reduceLeDiff, Nat.reduceEqDiff, Nat.reduceLT, Nat.zero_add, Bool.not_true, Bool.not_false, Bool.and_true, Bool.true_and, Bool.and_self, and_true, true_and, if_true, reduceIte, reduceCtorEq, decide_true, decide_false, Bool.false_eq_true, Bool.or_false, Bool.or_true, Bool.false_or, Bool.true_or, Bool.and_false, Bool.false_and, Nat.le_refl, lineN, Nat.one_ne_zero, Nat.zero_ne_one, addD_i, subD_i, negD_i, cmpI_i, eqD_i, neD_i, eqD_s, neD_s, eqD_b, neD_b, isD_n, isD_b, isNotD_n, isNotD_b, isBool_b, isNone_n, isNone_b, isNone_i, isNone_s, isNone_l, isNone_t, isNone_d, isi_eq, lenD_l, lenD_t, absD_n, maxD_m, minD_m, intD_i, listD_l, listD_t, tupleD_l, tupleD_t, isiB, mulSD_i, divD_i, modD_i, powD_i, ixD_l, ixD_t, ixD_s, slD_l, slD_t, slD_s, lenD_s, addD_s, addD_l, addD_t, strD_i, wp_bind, wp_guard, atI_0, atI_1, atI_2, atI_3, atI_4, ixN_0, ixN_1, ixN_2, Int.reduceNeg, Int.reduceSub, Int.reduceAdd, listD_s, tupleD_s, mulSD_s, small64_eq, decide_eq_true_eq, or_true, true_or, Int.reducePow, Int.reduceToNat, Int.reduceLE, Int.reduceLT, Int.reduceMul, Int.reduceEq, Int.zero_add, Nat.reducePow, Nat.reduceMul, Int.reduceAbs, rangeD_1, rangeD_2, rangeD_3, sortedD_l, maxLD_l, minLD_l, sumLD_l, reprD_1, ixD_ds, ixD_di, inD_ds, inD_di, notInD_ds, notInD_di, dictPD_l, intsOf_nil, intsOf_cons, Option.bind_some, List.max?_cons', List.min?_cons', List.foldl_cons, List.foldl_nil, kDictb_s, kDictb_int, Int.cast_ofNat_Int, upperD_eq, cutS_S, S_cps, S_len', SX.S_len, SX.S_cat, S_mk, repS_S, inD_S, notInD_S, signD_S, ixD_S, cutG_none, cutG_but, cutD_G, lit_0, lit_1, lit_2, lit_3, lit_4])
      exact k
    | a :: b :: c :: r, h, _, k =>
      have h2 : ¬ ((a :: b :: c :: r).length : Int) = 2 := by
        simp only [List.length_cons]
        omega
      have h3 : decide (((a :: b :: c :: r).length : Int) = 2) = false := decide_eq_false h2
      have h' : (a :: b :: c :: r).length ≤ lineN := h
      have e : boxB (.tuple (a :: b :: c :: r)) = false := rfl
      generalize hz : a :: b :: c :: r = z at *
      (try simp only [↓wx_0, ↓wx_s, ↓wv_fz, ↓wv_own, ↓wv_plc, ↓kView_fz, ↓kView_own, ↓kView_ref, ↓kView_rfz, ↓wf_fz, ↓wf_own, ↓wf_plc, ↓kFix_fz, ↓kFix_rfz, ↓kFix_own, ↓kFix_ref, ↓we_lit, ↓we_slot, ↓kSlot_fz, ↓kSlot_rfz, ↓kSlot_own, ↓kSlot_ref, ↓wa_nil, ↓wa_cons, ↓kCons1_eq, ↓kCons2_eq, ↓wvs_nil, ↓wvs_cons, ↓kVs1_eq, ↓kVs2_eq, ↓we_op2, ↓kOp2a_eq, ↓kOp2b_eq, ↓kOp2c_eq, ↓kOp2d_eq, ↓we_op1, ↓kOp1a_eq, ↓kOp1b_eq, ↓we_call, ↓kCalla_eq, ↓kCallb_eq, ↓wt_asT, ↓kAsT_eq, ↓wt_and, ↓wt_or, ↓wt_not, ↓kAnd_t, ↓kAnd_f, ↓kOr_t, ↓kOr_f, ↓kNot_eq, ↓we_eT, ↓kET_eq, ↓we_if, ↓kIfE_t, ↓kIfE_f, ↓we_chain, ↓kCh1_eq, ↓kCh2_eq, ↓kCh3_eq, ↓kCh4_eq, ↓kCh5_t, ↓kCh5_f, ↓wfs_nil, ↓wfs_cons, ↓kFs1_eq, ↓kFs2_eq, ↓we_tup, ↓we_lst, ↓kTup_eq, ↓kTupb_eq, ↓kLst_eq, ↓kLstb_eq, ↓we_dict, ↓kDict_eq, ↓kDictb_nil, ↓we_dictT, ↓kDictT_eq, ↓kDictTb_2, ↓wa_pairs0, ↓wa_pairs, ↓wo_no, ↓wo_sm, ↓kSm_eq, ↓we_sl, ↓kSl1_eq, ↓kSl2_eq, ↓kSl3_eq, ↓kSl4_eq, ↓we_m0, ↓we_m1, ↓kM0_eq, ↓kM1_eq, ↓kM1b_eq, ↓kM1c_eq, ↓wg_slot, ↓kGSlot_eq, ↓wgs_nil, ↓wgs_cons, ↓kGs_eq, ↓wg_unp, ↓wi_any, ↓kIAnyA_eq, ↓kIAny_l, ↓kIAny_t, ↓kIAny_s, ↓wi_r1, ↓wi_r2, ↓kR1_eq, ↓kR2_eq, ↓kR2a_eq, ↓we_lc, ↓kLc_eq, ↓kLcE_eq, ↓kLcF_eq, ↓kLcR_eq, ↓kLcT_eq, ↓kLcB_t, ↓kLcB_f, ↓wt_yes, ↓ws_skip, ↓ws_seq, ↓kSeq_nx, ↓kSeq_rt, ↓kSeq_bk, ↓kSeq_ct, ↓ws_expr, ↓kExpr_eq, ↓ws_set, ↓kSet_eq, ↓kSetL_eq, ↓kSetV_fz, ↓kSetV_own, ↓kSetV_plc, ↓kSetP_own, ↓kSetP_ref, ↓kSetP_fz, ↓ws_asg, ↓kAsg_fz, ↓kAsgB_eq, ↓ws_ret, ↓kRet_fz, ↓kRet_own, ↓kRet_plc, ↓kRetP_own, ↓kRetP_ref, ↓ws_retN, ↓ws_if, ↓kIf_t, ↓kIf_f, ↓ws_brk, ↓ws_cnt, ↓ws_for, ↓kFor_eq, ↓kLoop_nx, ↓kLoop_ct, ↓kLoop_bk, ↓kLoop_rt, ↓kBody_eq, ↓wl_eq, ↓kOwnL_own, ↓kOwnL_ref, ↓ws_setIx, ↓kSI1_eq, ↓kSI2_eq, ↓kSI3_eq, ↓kSI4_eq, ↓kSI5_eq, ↓we_app, ↓kAp0_eq, ↓kAp1_eq, ↓kAp2_eq, ↓kAp3_eq, ↓we_user, ↓kUsr_eq, ↓kUsr1_eq, ↓kUsr2_eq, ↓kUsr3_fz, ↓kUsr3_own, ↓warg_nil, ↓warg_fz, ↓warg_own, ↓warg_plc, ↓kArg1_eq, ↓kArg2_eq, ↓kArgP_own, ↓kArgP_ref, ↓kArgP_fz, ↓kArgP_rfz, ↓wc_run, ↓kRun_rt, ↓kRun_nx, ↓kRunR_fz, ↓kRunR_own, ↓wex_nil, ↓wex_fz, ↓wex_ref, ↓wex_rfz, ↓kEx_eq, ↓we_rev, ↓kRev0_eq, ↓kRev_l, ↓wk_eq, ↓kOwnK_own, ↓kOwnK_ref, ↓ws_setKey, ↓kSK1_eq, ↓kSK2_eq, ↓kSK3_eq, ↓kSK4_s, ↓kSK4_i, ↓kSK5_eq, ↓kSK6_eq, ↓we_get1, ↓kG1_eq, ↓kG2_d, ↓kG3_eq, ↓kG4_d, ↓kG5_s, ↓kG5_i, ↓we_get2, ↓kH1_eq, ↓kH2_d, ↓kH3_eq, ↓kH3b_eq, ↓kH4_d, ↓kH5_s, ↓kH5_i, ↓kWh_t, ↓kWh_f, ↓ws_while, ↓we_ext, ↓kEx0_eq, ↓kEx1_eq, ↓kEx3_eq, ↓kJ_nx, ↓kJ_rt, ↓kJ_bk, ↓kJ_ct, ↓kIs_eq, ↓kIsE_eq, wp_some, backSVs_nil, backSVs_cons, lock_unb, lock_fz, lock_own, plain_fz, plain_own, enter_fz, enter_own, put_ownE, put_refE, back_oo, back_of, back_ro, back_rf, back_fz, back_rfz, freeze_own, freeze_ref, freeze_fz, backAt_eq, findSV_nil, findSV_nil2, findSV_plc, findSV_fz, findSV_own, apart_nil, apart_fz, apart_own, apart_plc, placed_nil, placed_fz, placed_own, placed_plc, wipeE_nil, wipeE_cons, backE_nil, backE_cons, unlocked_nil, unlocked_cons, List.set_cons_zero, List.set_cons_succ, List.getD_cons_zero, List.getD_cons_succ, List.getElem?_cons_zero, List.getElem?_cons_succ, List.map_cons, List.map_nil, List.cons_append, List.nil_append, List.replicate_succ, List.replicate_zero, List.length_cons, List.length_nil, List.all_cons, List.all_nil, Nat.reduceSub, Nat.reduceAdd, Nat.reduceLeDiff, Nat.reduceEqDiff, Nat.reduceLT, Nat.zero_add, Bool.not_true, Bool.not_false, Bool.and_true, Bool.true_and, Bool.and_self, and_true, true_and, if_true, reduceIte, reduceCtorEq, decide_true, decide_false, Bool.false_eq_true, Bool.or_false, Bool.or_true, Bool.false_or, Bool.true_or, Bool.and_false, Bool.false_and, Nat.le_refl, lineN, Nat.one_ne_zero, Nat.zero_ne_one, addD_i, subD_i, negD_i, cmpI_i, eqD_i, neD_i, eqD_s, neD_s, eqD_b, neD_b, isD_n, isD_b, isNotD_n, isNotD_b, isBool_b, isNone_n, isNone_b, isNone_i, isNone_s, isNone_l, isNone_t, isNone_d, isi_eq, lenD_l, lenD_t, absD_n, maxD_m, minD_m, intD_i, listD_l, listD_t, tupleD_l, tupleD_t, isiB, mulSD_i, divD_i, modD_i, powD_i, ixD_l, ixD_t, ixD_s, slD_l, slD_t, slD_s, lenD_s, addD_s, addD_l, addD_t, strD_i, wp_bind, wp_guard, atI_0, atI_1, atI_2, atI_3, atI_4, ixN_0, ixN_1, ixN_2, Int.reduceNeg, Int.reduceSub, Int.reduceAdd, listD_s, tupleD_s, mulSD_s, small64_eq, decide_eq_true_eq, or_true, true_or, Int.reducePow, Int.reduceToNat, Int.reduceLE, Int.reduceLT, Int.reduceMul, Int.reduceEq, Int.zero_add, Nat.reducePow, Nat.reduceMul, Int.reduceAbs, rangeD_1, rangeD_2, rangeD_3, sortedD_l, maxLD_l, minLD_l, sumLD_l, reprD_1, ixD_ds, ixD_di, inD_ds, inD_di, notInD_ds, notInD_di, dictPD_l, intsOf_nil, intsOf_cons, Option.bind_some, List.max?_cons', List.min?_cons', List.foldl_cons, List.foldl_nil, kDictb_s, kDictb_int, Int.cast_ofNat_Int, upperD_eq, cutS_S, S_cps, S_len', SX.S_len, SX.S_cat, S_mk, repS_S, inD_S, notInD_S, signD_S, ixD_S, cutG_none, cutG_but, cutD_G, lit_0, lit_1, lit_2, lit_3, lit_4, h3])
      rw [e] at k
      first | exact k | exact ⟨h', k⟩
  | _ =>
    (try simp only [↓wx_0, ↓wx_s, ↓wv_fz, ↓wv_own, ↓wv_plc, ↓kView_fz, ↓kView_own, ↓kView_ref, ↓kView_rfz, ↓wf_fz, ↓wf_own, ↓wf_plc, ↓kFix_fz, ↓kFix_rfz, ↓kFix_own, ↓kFix_ref, ↓we_lit, ↓we_slot, ↓kSlot_fz, ↓kSlot_rfz, ↓kSlot_own, ↓kSlot_ref, ↓wa_nil, ↓wa_cons, ↓kCons1_eq, ↓kCons2_eq, ↓wvs_nil, ↓wvs_cons, ↓kVs1_eq, ↓kVs2_eq, ↓we_op2, ↓kOp2a_eq, ↓kOp2b_eq, ↓kOp2c_eq, ↓kOp2d_eq, ↓we_op1, ↓kOp1a_eq, ↓kOp1b_eq, ↓we_call, ↓kCalla_eq, ↓kCallb_eq, ↓wt_asT, ↓kAsT_eq, ↓wt_and, ↓wt_or, ↓wt_not, ↓kAnd_t, ↓kAnd_f, ↓kOr_t, ↓kOr_f, ↓kNot_eq, ↓we_eT, ↓kET_eq, ↓we_if, ↓kIfE_t, ↓kIfE_f, ↓we_chain, ↓kCh1_eq, ↓kCh2_eq, ↓kCh3_eq, ↓kCh4_eq, ↓kCh5_t, ↓kCh5_f, ↓wfs_nil, ↓wfs_cons, ↓kFs1_eq, ↓kFs2_eq, ↓we_tup, ↓we_lst, ↓kTup_eq, ↓kTupb_eq, ↓kLst_eq, ↓kLstb_eq, ↓we_dict, ↓kDict_eq, ↓kDictb_nil, ↓we_dictT, ↓kDictT_eq, ↓kDictTb_2, ↓wa_pairs0, ↓wa_pairs, ↓wo_no, ↓wo_sm, ↓kSm_eq, ↓we_sl, ↓kSl1_eq, ↓kSl2_eq, ↓kSl3_eq, ↓kSl4_eq, ↓we_m0, ↓we_m1, ↓kM0_eq, ↓kM1_eq, ↓kM1b_eq, ↓kM1c_eq, ↓wg_slot, ↓kGSlot_eq, ↓wgs_nil, ↓wgs_cons, ↓kGs_eq, ↓wg_unp, ↓wi_any, ↓kIAnyA_eq, ↓kIAny_l, ↓kIAny_t, ↓kIAny_s, ↓wi_r1, ↓wi_r2, ↓kR1_eq, ↓kR2_eq, ↓kR2a_eq, ↓we_lc, ↓kLc_eq, ↓kLcE_eq, ↓kLcF_eq, ↓kLcR_eq, ↓kLcT_eq, ↓kLcB_t, ↓kLcB_f, ↓wt_yes, ↓ws_skip, ↓ws_seq, ↓kSeq_nx, ↓kSeq_rt, ↓kSeq_bk, ↓kSeq_ct, ↓ws_expr, ↓kExpr_eq, ↓ws_set, ↓kSet_eq, ↓kSetL_eq, ↓kSetV_fz, ↓kSetV_own, ↓kSetV_plc, ↓kSetP_own, ↓kSetP_ref, ↓kSetP_fz, ↓ws_asg, ↓kAsg_fz, ↓kAsgB_eq, ↓ws_ret, ↓kRet_fz, ↓kRet_own, ↓kRet_plc, ↓kRetP_own, ↓kRetP_ref, ↓ws_retN, ↓ws_if, ↓kIf_t, ↓kIf_f, ↓ws_brk, ↓ws_cnt, ↓ws_for, ↓kFor_eq, ↓kLoop_nx, ↓kLoop_ct, ↓kLoop_bk, ↓kLoop_rt, ↓kBody_eq, ↓wl_eq, ↓kOwnL_own, ↓kOwnL_ref, ↓ws_setIx, ↓kSI1_eq, ↓kSI2_eq, ↓kSI3_eq, ↓kSI4_eq, ↓kSI5_eq, ↓we_app, ↓kAp0_eq, ↓kAp1_eq, ↓kAp2_eq, ↓kAp3_eq, ↓we_user, ↓kUsr_eq, ↓kUsr1_eq, ↓kUsr2_eq, ↓kUsr3_fz, ↓kUsr3_own, ↓warg_nil, ↓warg_fz, ↓warg_own, ↓warg_plc, ↓kArg1_eq, ↓kArg2_eq, ↓kArgP_own, ↓kArgP_ref, ↓kArgP_fz, ↓kArgP_rfz, ↓wc_run, ↓kRun_rt, ↓kRun_nx, ↓kRunR_fz, ↓kRunR_own, ↓wex_nil, ↓wex_fz, ↓wex_ref, ↓wex_rfz, ↓kEx_eq, ↓we_rev, ↓kRev0_eq, ↓kRev_l, ↓wk_eq, ↓kOwnK_own, ↓kOwnK_ref, ↓ws_setKey, ↓kSK1_eq, ↓kSK2_eq, ↓kSK3_eq, ↓kSK4_s, ↓kSK4_i, ↓kSK5_eq, ↓kSK6_eq, ↓we_get1, ↓kG1_eq, ↓kG2_d, ↓kG3_eq, ↓kG4_d, ↓kG5_s, ↓kG5_i, ↓we_get2, ↓kH1_eq, ↓kH2_d, ↓kH3_eq, ↓kH3b_eq, ↓kH4_d, ↓kH5_s, ↓kH5_i, ↓kWh_t, ↓kWh_f, ↓ws_while, ↓we_ext, ↓kEx0_eq, ↓kEx1_eq, ↓kEx3_eq, ↓kJ_nx, ↓kJ_rt, ↓kJ_bk, ↓kJ_ct, ↓kIs_eq, ↓kIsE_eq, wp_some, backSVs_nil, backSVs_cons, lock_unb, lock_fz, lock_own, plain_fz, plain_own, enter_fz, enter_own, put_ownE, put_refE, back_oo, back_of, back_ro, back_rf, back_fz, back_rfz, freeze_own, freeze_ref, freeze_fz, backAt_eq, findSV_nil, findSV_nil2, findSV_plc, findSV_fz, findSV_own, apart_nil, apart_fz, apart_own, apart_plc, placed_nil, placed_fz, placed_own, placed_plc, wipeE_nil, wipeE_cons, backE_nil, backE_cons, unlocked_nil, unlocked_cons, List.set_cons_zero, List.set_cons_succ, List.getD_cons_zero, List.getD_cons_succ, List.getElem?_cons_zero, List.getElem?_cons_succ, List.map_cons, List.map_nil, List.cons_append, List.nil_append, List.replicate_succ, List.replicate_zero, List.length_cons, List.length_nil, List.all_cons, List.all_nil, Nat.reduceSub, Nat.reduceAdd, Nat.reduceLeDiff, Nat.reduceEqDiff, Nat.reduceLT, Nat.zero_add, Bool.not_true, Bool.not_false, Bool.and_true, Bool.true_and, Bool.and_self, and_true, true_and, if_true, reduceIte, reduceCtorEq, decide_true, decide_false, Bool.false_eq_true, Bool.or_false, Bool.or_true, Bool.false_or, Bool.true_or, Bool.and_false, Bool.false_and, Nat.le_refl, lineN, Nat.one_ne_zero, Nat.zero_ne_one, addD_i, subD_i, negD_i, cmpI_i, eqD_i, neD_i, eqD_s, neD_s, eqD_b, neD_b, isD_n, isD_b, isNotD_n, isNotD_b, isBool_b, isNone_n, isNone_b, isNone_i, isNone_s, isNone_l, isNone_t, isNone_d, isi_eq, lenD_l, lenD_t, absD_n, maxD_m, minD_m, intD_i, listD_l, listD_t, tupleD_l, tupleD_t, isiB, mulSD_i, divD_i, modD_i, powD_i, ixD_l, ixD_t, ixD_s, slD_l, slD_t, slD_s, lenD_s, addD_s, addD_l, addD_t, strD_i, wp_bind, wp_guard, atI_0, atI_1, atI_2, atI_3, atI_4, ixN_0, ixN_1, ixN_2, Int.reduceNeg, Int.reduceSub, Int.reduceAdd, listD_s, tupleD_s, mulSD_s, small64_eq, decide_eq_true_eq, or_true, true_or, Int.reducePow, Int.reduceToNat, Int.reduceLE, Int.reduceLT, Int.reduceMul, Int.reduceEq, Int.zero_add, Nat.reducePow, Nat.reduceMul, Int.reduceAbs, rangeD_1, rangeD_2, rangeD_3, sortedD_l, maxLD_l, minLD_l, sumLD_l, reprD_1, ixD_ds, ixD_di, inD_ds, inD_di, notInD_ds, notInD_di, dictPD_l, intsOf_nil, intsOf_cons, Option.bind_some, List.max?_cons', List.min?_cons', List.foldl_cons, List.foldl_nil, kDictb_s, kDictb_int, Int.cast_ofNat_Int, upperD_eq, cutS_S, S_cps, S_len', SX.S_len, SX.S_cat, S_mk, repS_S, inD_S, notInD_S, signD_S, ixD_S, cutG_none, cutG_but, cutD_G, lit_0, lit_1, lit_2, lit_3, lit_4])
    exact k
/-! numbers, spots, boxes -/
def nrI (i : Int) : Prop := (i.natAbs : Int) < 1000000000000
theorem number_ok {ns : List Int} {p c : Int} {P : List SV → RV → Prop} (k : ∀ x p' c' : Int, nrI x → P [.own (penD ns p' c')] (.fz (.int x))) : WC c_law_number [.own (penD ns p c)] P := by
  unfold nrI at k
  unfold c_law_number b_law_number
  (try simp only [↓wx_0, ↓wx_s, ↓wv_fz, ↓wv_own, ↓wv_plc, ↓kView_fz, ↓kView_own, ↓kView_ref, ↓kView_rfz, ↓wf_fz, ↓wf_own, ↓wf_plc, ↓kFix_fz, ↓kFix_rfz, ↓kFix_own, ↓kFix_ref, ↓we_lit, ↓we_slot, ↓kSlot_fz, ↓kSlot_rfz, ↓kSlot_own, ↓kSlot_ref, ↓wa_nil, ↓wa_cons, ↓kCons1_eq, ↓kCons2_eq, ↓wvs_nil, ↓wvs_cons, ↓kVs1_eq, ↓kVs2_eq, ↓we_op2, ↓kOp2a_eq, ↓kOp2b_eq, ↓kOp2c_eq, ↓kOp2d_eq, ↓we_op1, ↓kOp1a_eq, ↓kOp1b_eq, ↓we_call, ↓kCalla_eq, ↓kCallb_eq, ↓wt_asT, ↓kAsT_eq, ↓wt_and, ↓wt_or, ↓wt_not, ↓kAnd_t, ↓kAnd_f, ↓kOr_t, ↓kOr_f, ↓kNot_eq, ↓we_eT, ↓kET_eq, ↓we_if, ↓kIfE_t, ↓kIfE_f, ↓we_chain, ↓kCh1_eq, ↓kCh2_eq, ↓kCh3_eq, ↓kCh4_eq, ↓kCh5_t, ↓kCh5_f, ↓wfs_nil, ↓wfs_cons, ↓kFs1_eq, ↓kFs2_eq, ↓we_tup, ↓we_lst, ↓kTup_eq, ↓kTupb_eq, ↓kLst_eq, ↓kLstb_eq, ↓we_dict, ↓kDict_eq, ↓kDictb_nil, ↓we_dictT, ↓kDictT_eq, ↓kDictTb_2, ↓wa_pairs0, ↓wa_pairs, ↓wo_no, ↓wo_sm, ↓kSm_eq, ↓we_sl, ↓kSl1_eq, ↓kSl2_eq, ↓kSl3_eq, ↓kSl4_eq, ↓we_m0, ↓we_m1, ↓kM0_eq, ↓kM1_eq, ↓kM1b_eq, ↓kM1c_eq, ↓wg_slot, ↓kGSlot_eq, ↓wgs_nil, ↓wgs_cons, ↓kGs_eq, ↓wg_unp, ↓wi_any, ↓kIAnyA_eq, ↓kIAny_l, ↓kIAny_t, ↓kIAny_s, ↓wi_r1, ↓wi_r2, ↓kR1_eq, ↓kR2_eq, ↓kR2a_eq, ↓we_lc, ↓kLc_eq, ↓kLcE_eq, ↓kLcF_eq, ↓kLcR_eq, ↓kLcT_eq, ↓kLcB_t, ↓kLcB_f, ↓wt_yes, ↓ws_skip, ↓ws_seq, ↓kSeq_nx, ↓kSeq_rt, ↓kSeq_bk, ↓kSeq_ct, ↓ws_expr, ↓kExpr_eq, ↓ws_set, ↓kSet_eq, ↓kSetL_eq, ↓kSetV_fz, ↓kSetV_own, ↓kSetV_plc, ↓kSetP_own, ↓kSetP_ref, ↓kSetP_fz, ↓ws_asg, ↓kAsg_fz, ↓kAsgB_eq, ↓ws_ret, ↓kRet_fz, ↓kRet_own, ↓kRet_plc, ↓kRetP_own, ↓kRetP_ref, ↓ws_retN, ↓ws_if, ↓kIf_t, ↓kIf_f, ↓ws_brk, ↓ws_cnt, ↓ws_for, ↓kFor_eq, ↓kLoop_nx, ↓kLoop_ct, ↓kLoop_bk, ↓kLoop_rt, ↓kBody_eq, ↓wl_eq, ↓kOwnL_own, ↓kOwnL_ref, ↓ws_setIx, ↓kSI1_eq, ↓kSI2_eq, ↓kSI3_eq, ↓kSI4_eq, ↓kSI5_eq, ↓we_app, ↓kAp0_eq, ↓kAp1_eq, ↓kAp2_eq, ↓kAp3_eq, ↓we_user, ↓kUsr_eq, ↓kUsr1_eq, ↓kUsr2_eq, ↓kUsr3_fz, ↓kUsr3_own, ↓warg_nil, ↓warg_fz, ↓warg_own, ↓warg_plc, ↓kArg1_eq, ↓kArg2_eq, ↓kArgP_own, ↓kArgP_ref, ↓kArgP_fz, ↓kArgP_rfz, ↓wc_run, ↓kRun_rt, ↓kRun_nx, ↓kRunR_fz, ↓kRunR_own, ↓wex_nil, ↓wex_fz, ↓wex_ref, ↓wex_rfz, ↓kEx_eq, ↓we_rev, ↓kRev0_eq, ↓kRev_l, ↓wk_eq, ↓kOwnK_own, ↓kOwnK_ref, ↓ws_setKey, ↓kSK1_eq, ↓kSK2_eq, ↓kSK3_eq, ↓kSK4_s, ↓kSK4_i, ↓kSK5_eq, ↓kSK6_eq, ↓we_get1, ↓kG1_eq, ↓kG2_d, ↓kG3_eq, ↓kG4_d, ↓kG5_s, ↓kG5_i, ↓we_get2, ↓kH1_eq, ↓kH2_d, ↓kH3_eq, ↓kH3b_eq, ↓kH4_d, ↓kH5_s, ↓kH5_i, ↓kWh_t, ↓kWh_f, ↓ws_while, ↓we_ext, ↓kEx0_eq, ↓kEx1_eq, ↓kEx3_eq, ↓kJ_nx, ↓kJ_rt, ↓kJ_bk, ↓kJ_ct, ↓kIs_eq, ↓kIsE_eq, wp_some, backSVs_nil, backSVs_cons, lock_unb, lock_fz, lock_own, plain_fz, plain_own, enter_fz, enter_own, put_ownE, put_refE, back_oo, back_of, back_ro, back_rf, back_fz, back_rfz, freeze_own, freeze_ref, freeze_fz, backAt_eq, findSV_nil, findSV_nil2, findSV_plc, findSV_fz, findSV_own, apart_nil, apart_fz, apart_own, apart_plc, placed_nil, placed_fz, placed_own, placed_plc, wipeE_nil, wipeE_cons, backE_nil, backE_cons, unlocked_nil, unlocked_cons, List.set_cons_zero, List.set_cons_succ, List.getD_cons_zero, List.getD_cons_succ, List.getElem?_cons_zero, List.getElem?_cons_succ, List.map_cons, List.map_nil, List.cons_append, List.nil_append, List.replicate_succ, List.replicate_zero, List.length_cons, List.length_nil, List.all_cons, List.all_nil, Nat.reduceSub, Nat.reduceAdd, Nat.reduceLeDiff, Nat.reduceEqDiff, Nat.reduceLT, Nat.zero_add, Bool.not_true, Bool.not_false, Bool.and_true, Bool.true_and, Bool.and_self, and_true, true_and, if_true, reduceIte, reduceCtorEq, decide_true, decide_false, Bool.false_eq_true, Bool.or_false, Bool.or_true, Bool.false_or, Bool.true_or, Bool.and_false, Bool.false_and, Nat.le_refl, lineN, Nat.one_ne_zero, Nat.zero_ne_one, addD_i, subD_i, negD_i, cmpI_i, eqD_i, neD_i, eqD_s, neD_s, eqD_b, neD_b, isD_n, isD_b, isNotD_n, isNotD_b, isBool_b, isNone_n, isNone_b, isNone_i, isNone_s, isNone_l, isNone_t, isNone_d, isi_eq, lenD_l, lenD_t, absD_n, maxD_m, minD_m, intD_i, listD_l, listD_t, tupleD_l, tupleD_t, isiB, mulSD_i, divD_i, modD_i, powD_i, ixD_l, ixD_t, ixD_s, slD_l, slD_t, slD_s, lenD_s, addD_s, addD_l, addD_t, strD_i, wp_bind, wp_guard, atI_0, atI_1, atI_2, atI_3, atI_4, ixN_0, ixN_1, ixN_2, Int.reduceNeg, Int.reduceSub, Int.reduceAdd, listD_s, tupleD_s, mulSD_s, small64_eq, decide_eq_true_eq, or_true, true_or, Int.reducePow, Int.reduceToNat, Int.reduceLE, Int.reduceLT, Int.reduceMul, Int.reduceEq, Int.zero_add, Nat.reducePow, Nat.reduceMul, Int.reduceAbs, rangeD_1, rangeD_2, rangeD_3, sortedD_l, maxLD_l, minLD_l, sumLD_l, reprD_1, ixD_ds, ixD_di, inD_ds, inD_di, notInD_ds, notInD_di, dictPD_l, intsOf_nil, intsOf_cons, Option.bind_some, List.max?_cons', List.min?_cons', List.foldl_cons, List.foldl_nil, kDictb_s, kDictb_int, Int.cast_ofNat_Int, upperD_eq, cutS_S, S_cps, S_len', SX.S_len, SX.S_cat, S_mk, repS_S, inD_S, notInD_S, signD_S, ixD_S, cutG_none, cutG_but, cutD_G, lit_0, lit_1, lit_2, lit_3, lit_4])
  refine take_ok (by decide) (by decide) fun r1 p1 c1 a1 b1 => ?_
  (try simp only [↓wx_0, ↓wx_s, ↓wv_fz, ↓wv_own, ↓wv_plc, ↓kView_fz, ↓kView_own, ↓kView_ref, ↓kView_rfz, ↓wf_fz, ↓wf_own, ↓wf_plc, ↓kFix_fz, ↓kFix_rfz, ↓kFix_own, ↓kFix_ref, ↓we_lit, ↓we_slot, ↓kSlot_fz, ↓kSlot_rfz, ↓kSlot_own, ↓kSlot_ref, ↓wa_nil, ↓wa_cons, ↓kCons1_eq, ↓kCons2_eq, ↓wvs_nil, ↓wvs_cons, ↓kVs1_eq, ↓kVs2_eq, ↓we_op2, ↓kOp2a_eq, ↓kOp2b_eq, ↓kOp2c_eq, ↓kOp2d_eq, ↓we_op1, ↓kOp1a_eq, ↓kOp1b_eq, ↓we_call, ↓kCalla_eq, ↓kCallb_eq, ↓wt_asT, ↓kAsT_eq, ↓wt_and, ↓wt_or, ↓wt_not, ↓kAnd_t, ↓kAnd_f, ↓kOr_t, ↓kOr_f, ↓kNot_eq, ↓we_eT, ↓kET_eq, ↓we_if, ↓kIfE_t, ↓kIfE_f, ↓we_chain, ↓kCh1_eq, ↓kCh2_eq, ↓kCh3_eq, ↓kCh4_eq, ↓kCh5_t, ↓kCh5_f, ↓wfs_nil, ↓wfs_cons, ↓kFs1_eq, ↓kFs2_eq, ↓we_tup, ↓we_lst, ↓kTup_eq, ↓kTupb_eq, ↓kLst_eq, ↓kLstb_eq, ↓we_dict, ↓kDict_eq, ↓kDictb_nil, ↓we_dictT, ↓kDictT_eq, ↓kDictTb_2, ↓wa_pairs0, ↓wa_pairs, ↓wo_no, ↓wo_sm, ↓kSm_eq, ↓we_sl, ↓kSl1_eq, ↓kSl2_eq, ↓kSl3_eq, ↓kSl4_eq, ↓we_m0, ↓we_m1, ↓kM0_eq, ↓kM1_eq, ↓kM1b_eq, ↓kM1c_eq, ↓wg_slot, ↓kGSlot_eq, ↓wgs_nil, ↓wgs_cons, ↓kGs_eq, ↓wg_unp, ↓wi_any, ↓kIAnyA_eq, ↓kIAny_l, ↓kIAny_t, ↓kIAny_s, ↓wi_r1, ↓wi_r2, ↓kR1_eq, ↓kR2_eq, ↓kR2a_eq, ↓we_lc, ↓kLc_eq, ↓kLcE_eq, ↓kLcF_eq, ↓kLcR_eq, ↓kLcT_eq, ↓kLcB_t, ↓kLcB_f, ↓wt_yes, ↓ws_skip, ↓ws_seq, ↓kSeq_nx, ↓kSeq_rt, ↓kSeq_bk, ↓kSeq_ct, ↓ws_expr, ↓kExpr_eq, ↓ws_set, ↓kSet_eq, ↓kSetL_eq, ↓kSetV_fz, ↓kSetV_own, ↓kSetV_plc, ↓kSetP_own, ↓kSetP_ref, ↓kSetP_fz, ↓ws_asg, ↓kAsg_fz, ↓kAsgB_eq, ↓ws_ret, ↓kRet_fz, ↓kRet_own, ↓kRet_plc, ↓kRetP_own, ↓kRetP_ref, ↓ws_retN, ↓ws_if, ↓kIf_t, ↓kIf_f, ↓ws_brk, ↓ws_cnt, ↓ws_for, ↓kFor_eq, ↓kLoop_nx, ↓kLoop_ct, ↓kLoop_bk, ↓kLoop_rt, ↓kBody_eq, ↓wl_eq, ↓kOwnL_own, ↓kOwnL_ref, ↓ws_setIx, ↓kSI1_eq, ↓kSI2_eq, ↓kSI3_eq, ↓kSI4_eq, ↓kSI5_eq, ↓we_app, ↓kAp0_eq, ↓kAp1_eq, ↓kAp2_eq, ↓kAp3_eq, ↓we_user, ↓kUsr_eq, ↓kUsr1_eq, ↓kUsr2_eq, ↓kUsr3_fz, ↓kUsr3_own, ↓warg_nil, ↓warg_fz, ↓warg_own, ↓warg_plc, ↓kArg1_eq, ↓kArg2_eq, ↓kArgP_own, ↓kArgP_ref, ↓kArgP_fz, ↓kArgP_rfz, ↓wc_run, ↓kRun_rt, ↓kRun_nx, ↓kRunR_fz, ↓kRunR_own, ↓wex_nil, ↓wex_fz, ↓wex_ref, ↓wex_rfz, ↓kEx_eq, ↓we_rev, ↓kRev0_eq, ↓kRev_l, ↓wk_eq, ↓kOwnK_own, ↓kOwnK_ref, ↓ws_setKey, ↓kSK1_eq, ↓kSK2_eq, ↓kSK3_eq, ↓kSK4_s, ↓kSK4_i, ↓kSK5_eq, ↓kSK6_eq, ↓we_get1, ↓kG1_eq, ↓kG2_d, ↓kG3_eq, ↓kG4_d, ↓kG5_s, ↓kG5_i, ↓we_get2, ↓kH1_eq, ↓kH2_d, ↓kH3_eq, ↓kH3b_eq, ↓kH4_d, ↓kH5_s, ↓kH5_i, ↓kWh_t, ↓kWh_f, ↓ws_while, ↓we_ext, ↓kEx0_eq, ↓kEx1_eq, ↓kEx3_eq, ↓kJ_nx, ↓kJ_rt, ↓kJ_bk, ↓kJ_ct, ↓kIs_eq, ↓kIsE_eq, wp_some, backSVs_nil, backSVs_cons, lock_unb, lock_fz, lock_own, plain_fz, plain_own, enter_fz, enter_own, put_ownE, put_refE, back_oo, back_of, back_ro, back_rf, back_fz, back_rfz, freeze_own, freeze_ref, freeze_fz, backAt_eq, findSV_nil, findSV_nil2, findSV_plc, findSV_fz, findSV_own, apart_nil, apart_fz, apart_own, apart_plc, placed_nil, placed_fz, placed_own, placed_plc, wipeE_nil, wipeE_cons, backE_nil, backE_cons, unlocked_nil, unlocked_cons, List.set_cons_zero, List.set_cons_succ, List.getD_cons_zero, List.getD_cons_succ, List.getElem?_cons_zero, List.getElem?_cons_succ, List.map_cons, List.map_nil, List.cons_append, List.nil_append, List.replicate_succ, List.replicate_zero, List.length_cons, List.length_nil, List.all_cons, List.all_nil, Nat.reduceSub, Nat.reduceAdd, Nat.reduceLeDiff, Nat.reduceEqDiff, Nat.reduceLT, Nat.zero_add, Bool.not_true, Bool.not_false, Bool.and_true, Bool.true_and, Bool.and_self, and_true, true_and, if_true, reduceIte, reduceCtorEq, decide_true, decide_false, Bool.false_eq_true, Bool.or_false, Bool.or_true, Bool.false_or, Bool.true_or, Bool.and_false, Bool.false_and, Nat.le_refl, lineN, Nat.one_ne_zero, Nat.zero_ne_one, addD_i, subD_i, negD_i, cmpI_i, eqD_i, neD_i, eqD_s, neD_s, eqD_b, neD_b, isD_n, isD_b, isNotD_n, isNotD_b, isBool_b, isNone_n, isNone_b, isNone_i, isNone_s, isNone_l, isNone_t, isNone_d, isi_eq, lenD_l, lenD_t, absD_n, maxD_m, minD_m, intD_i, listD_l, listD_t, tupleD_l, tupleD_t, isiB, mulSD_i, divD_i, modD_i, powD_i, ixD_l, ixD_t, ixD_s, slD_l, slD_t, slD_s, lenD_s, addD_s, addD_l, addD_t, strD_i, wp_bind, wp_guard, atI_0, atI_1, atI_2, atI_3, atI_4, ixN_0, ixN_1, ixN_2, Int.reduceNeg, Int.reduceSub, Int.reduceAdd, listD_s, tupleD_s, mulSD_s, small64_eq, decide_eq_true_eq, or_true, true_or, Int.reducePow, Int.reduceToNat, Int.reduceLE, Int.reduceLT, Int.reduceMul, Int.reduceEq, Int.zero_add, Nat.reducePow, Nat.reduceMul, Int.reduceAbs, rangeD_1, rangeD_2, rangeD_3, sortedD_l, maxLD_l, minLD_l, sumLD_l, reprD_1, ixD_ds, ixD_di, inD_ds, inD_di, notInD_ds, notInD_di, dictPD_l, intsOf_nil, intsOf_cons, Option.bind_some, List.max?_cons', List.min?_cons', List.foldl_cons, List.foldl_nil, kDictb_s, kDictb_int, Int.cast_ofNat_Int, upperD_eq, cutS_S, S_cps, S_len', SX.S_len, SX.S_cat, S_mk, repS_S, inD_S, notInD_S, signD_S, ixD_S, cutG_none, cutG_but, cutD_G, lit_0, lit_1, lit_2, lit_3, lit_4])
  refine take_ok (by decide) (by decide) fun r2 p2 c2 a2 b2 => ?_
  (try simp only [↓wx_0, ↓wx_s, ↓wv_fz, ↓wv_own, ↓wv_plc, ↓kView_fz, ↓kView_own, ↓kView_ref, ↓kView_rfz, ↓wf_fz, ↓wf_own, ↓wf_plc, ↓kFix_fz, ↓kFix_rfz, ↓kFix_own, ↓kFix_ref, ↓we_lit, ↓we_slot, ↓kSlot_fz, ↓kSlot_rfz, ↓kSlot_own, ↓kSlot_ref, ↓wa_nil, ↓wa_cons, ↓kCons1_eq, ↓kCons2_eq, ↓wvs_nil, ↓wvs_cons, ↓kVs1_eq, ↓kVs2_eq, ↓we_op2, ↓kOp2a_eq, ↓kOp2b_eq, ↓kOp2c_eq, ↓kOp2d_eq, ↓we_op1, ↓kOp1a_eq, ↓kOp1b_eq, ↓we_call, ↓kCalla_eq, ↓kCallb_eq, ↓wt_asT, ↓kAsT_eq, ↓wt_and, ↓wt_or, ↓wt_not, ↓kAnd_t, ↓kAnd_f, ↓kOr_t, ↓kOr_f, ↓kNot_eq, ↓we_eT, ↓kET_eq, ↓we_if, ↓kIfE_t, ↓kIfE_f, ↓we_chain, ↓kCh1_eq, ↓kCh2_eq, ↓kCh3_eq, ↓kCh4_eq, ↓kCh5_t, ↓kCh5_f, ↓wfs_nil, ↓wfs_cons, ↓kFs1_eq, ↓kFs2_eq, ↓we_tup, ↓we_lst, ↓kTup_eq, ↓kTupb_eq, ↓kLst_eq, ↓kLstb_eq, ↓we_dict, ↓kDict_eq, ↓kDictb_nil, ↓we_dictT, ↓kDictT_eq, ↓kDictTb_2, ↓wa_pairs0, ↓wa_pairs, ↓wo_no, ↓wo_sm, ↓kSm_eq, ↓we_sl, ↓kSl1_eq, ↓kSl2_eq, ↓kSl3_eq, ↓kSl4_eq, ↓we_m0, ↓we_m1, ↓kM0_eq, ↓kM1_eq, ↓kM1b_eq, ↓kM1c_eq, ↓wg_slot, ↓kGSlot_eq, ↓wgs_nil, ↓wgs_cons, ↓kGs_eq, ↓wg_unp, ↓wi_any, ↓kIAnyA_eq, ↓kIAny_l, ↓kIAny_t, ↓kIAny_s, ↓wi_r1, ↓wi_r2, ↓kR1_eq, ↓kR2_eq, ↓kR2a_eq, ↓we_lc, ↓kLc_eq, ↓kLcE_eq, ↓kLcF_eq, ↓kLcR_eq, ↓kLcT_eq, ↓kLcB_t, ↓kLcB_f, ↓wt_yes, ↓ws_skip, ↓ws_seq, ↓kSeq_nx, ↓kSeq_rt, ↓kSeq_bk, ↓kSeq_ct, ↓ws_expr, ↓kExpr_eq, ↓ws_set, ↓kSet_eq, ↓kSetL_eq, ↓kSetV_fz, ↓kSetV_own, ↓kSetV_plc, ↓kSetP_own, ↓kSetP_ref, ↓kSetP_fz, ↓ws_asg, ↓kAsg_fz, ↓kAsgB_eq, ↓ws_ret, ↓kRet_fz, ↓kRet_own, ↓kRet_plc, ↓kRetP_own, ↓kRetP_ref, ↓ws_retN, ↓ws_if, ↓kIf_t, ↓kIf_f, ↓ws_brk, ↓ws_cnt, ↓ws_for, ↓kFor_eq, ↓kLoop_nx, ↓kLoop_ct, ↓kLoop_bk, ↓kLoop_rt, ↓kBody_eq, ↓wl_eq, ↓kOwnL_own, ↓kOwnL_ref, ↓ws_setIx, ↓kSI1_eq, ↓kSI2_eq, ↓kSI3_eq, ↓kSI4_eq, ↓kSI5_eq, ↓we_app, ↓kAp0_eq, ↓kAp1_eq, ↓kAp2_eq, ↓kAp3_eq, ↓we_user, ↓kUsr_eq, ↓kUsr1_eq, ↓kUsr2_eq, ↓kUsr3_fz, ↓kUsr3_own, ↓warg_nil, ↓warg_fz, ↓warg_own, ↓warg_plc, ↓kArg1_eq, ↓kArg2_eq, ↓kArgP_own, ↓kArgP_ref, ↓kArgP_fz, ↓kArgP_rfz, ↓wc_run, ↓kRun_rt, ↓kRun_nx, ↓kRunR_fz, ↓kRunR_own, ↓wex_nil, ↓wex_fz, ↓wex_ref, ↓wex_rfz, ↓kEx_eq, ↓we_rev, ↓kRev0_eq, ↓kRev_l, ↓wk_eq, ↓kOwnK_own, ↓kOwnK_ref, ↓ws_setKey, ↓kSK1_eq, ↓kSK2_eq, ↓kSK3_eq, ↓kSK4_s, ↓kSK4_i, ↓kSK5_eq, ↓kSK6_eq, ↓we_get1, ↓kG1_eq, ↓kG2_d, ↓kG3_eq, ↓kG4_d, ↓kG5_s, ↓kG5_i, ↓we_get2, ↓kH1_eq, ↓kH2_d, ↓kH3_eq, ↓kH3b_eq, ↓kH4_d, ↓kH5_s, ↓kH5_i, ↓kWh_t, ↓kWh_f, ↓ws_while, ↓we_ext, ↓kEx0_eq, ↓kEx1_eq, ↓kEx3_eq, ↓kJ_nx, ↓kJ_rt, ↓kJ_bk, ↓kJ_ct, ↓kIs_eq, ↓kIsE_eq, wp_some, backSVs_nil, backSVs_cons, lock_unb, lock_fz, lock_own, plain_fz, plain_own, enter_fz, enter_own, put_ownE, put_refE, back_oo, back_of, back_ro, back_rf, back_fz, back_rfz, freeze_own, freeze_ref, freeze_fz, backAt_eq, findSV_nil, findSV_nil2, findSV_plc, findSV_fz, findSV_own, apart_nil, apart_fz, apart_own, apart_plc, placed_nil, placed_fz, placed_own, placed_plc, wipeE_nil, wipeE_cons, backE_nil, backE_cons, unlocked_nil, unlocked_cons, List.set_cons_zero, List.set_cons_succ, List.getD_cons_zero, List.getD_cons_succ, List.getElem?_cons_zero, List.getElem?_cons_succ, List.map_cons, List.map_nil, List.cons_append, List.nil_append, List.replicate_succ, List.replicate_zero, List.length_cons, List.length_nil, List.all_cons, List.all_nil, Nat.reduceSub, Nat.reduceAdd, Nat.reduceLeDiff, Nat.reduceEqDiff, Nat.reduceLT, Nat.zero_add, Bool.not_true, Bool.not_false, Bool.and_true, Bool.true_and, Bool.and_self, and_true, true_and, if_true, reduceIte, reduceCtorEq, decide_true, decide_false, Bool.false_eq_true, Bool.or_false, Bool.or_true, Bool.false_or, Bool.true_or, Bool.and_false, Bool.false_and, Nat.le_refl, lineN, Nat.one_ne_zero, Nat.zero_ne_one, addD_i, subD_i, negD_i, cmpI_i, eqD_i, neD_i, eqD_s, neD_s, eqD_b, neD_b, isD_n, isD_b, isNotD_n, isNotD_b, isBool_b, isNone_n, isNone_b, isNone_i, isNone_s, isNone_l, isNone_t, isNone_d, isi_eq, lenD_l, lenD_t, absD_n, maxD_m, minD_m, intD_i, listD_l, listD_t, tupleD_l, tupleD_t, isiB, mulSD_i, divD_i, modD_i, powD_i, ixD_l, ixD_t, ixD_s, slD_l, slD_t, slD_s, lenD_s, addD_s, addD_l, addD_t, strD_i, wp_bind, wp_guard, atI_0, atI_1, atI_2, atI_3, atI_4, ixN_0, ixN_1, ixN_2, Int.reduceNeg, Int.reduceSub, Int.reduceAdd, listD_s, tupleD_s, mulSD_s, small64_eq, decide_eq_true_eq, or_true, true_or, Int.reducePow, Int.reduceToNat, Int.reduceLE, Int.reduceLT, Int.reduceMul, Int.reduceEq, Int.zero_add, Nat.reducePow, Nat.reduceMul, Int.reduceAbs, rangeD_1, rangeD_2, rangeD_3, sortedD_l, maxLD_l, minLD_l, sumLD_l, reprD_1, ixD_ds, ixD_di, inD_ds, inD_di, notInD_ds, notInD_di, dictPD_l, intsOf_nil, intsOf_cons, Option.bind_some, List.max?_cons', List.min?_cons', List.foldl_cons, List.foldl_nil, kDictb_s, kDictb_int, Int.cast_ofNat_Int, upperD_eq, cutS_S, S_cps, S_len', SX.S_len, SX.S_cat, S_mk, repS_S, inD_S, notInD_S, signD_S, ixD_S, cutG_none, cutG_but, cutD_G, lit_0, lit_1, lit_2, lit_3, lit_4])
  refine wide_ok (by decide) (by decide) fun r3 p3 c3 a3 b3 => ?_
  (try simp only [↓wx_0, ↓wx_s, ↓wv_fz, ↓wv_own, ↓wv_plc, ↓kView_fz, ↓kView_own, ↓kView_ref, ↓kView_rfz, ↓wf_fz, ↓wf_own, ↓wf_plc, ↓kFix_fz, ↓kFix_rfz, ↓kFix_own, ↓kFix_ref, ↓we_lit, ↓we_slot, ↓kSlot_fz, ↓kSlot_rfz, ↓kSlot_own, ↓kSlot_ref, ↓wa_nil, ↓wa_cons, ↓kCons1_eq, ↓kCons2_eq, ↓wvs_nil, ↓wvs_cons, ↓kVs1_eq, ↓kVs2_eq, ↓we_op2, ↓kOp2a_eq, ↓kOp2b_eq, ↓kOp2c_eq, ↓kOp2d_eq, ↓we_op1, ↓kOp1a_eq, ↓kOp1b_eq, ↓we_call, ↓kCalla_eq, ↓kCallb_eq, ↓wt_asT, ↓kAsT_eq, ↓wt_and, ↓wt_or, ↓wt_not, ↓kAnd_t, ↓kAnd_f, ↓kOr_t, ↓kOr_f, ↓kNot_eq, ↓we_eT, ↓kET_eq, ↓we_if, ↓kIfE_t, ↓kIfE_f, ↓we_chain, ↓kCh1_eq, ↓kCh2_eq, ↓kCh3_eq, ↓kCh4_eq, ↓kCh5_t, ↓kCh5_f, ↓wfs_nil, ↓wfs_cons, ↓kFs1_eq, ↓kFs2_eq, ↓we_tup, ↓we_lst, ↓kTup_eq, ↓kTupb_eq, ↓kLst_eq, ↓kLstb_eq, ↓we_dict, ↓kDict_eq, ↓kDictb_nil, ↓we_dictT, ↓kDictT_eq, ↓kDictTb_2, ↓wa_pairs0, ↓wa_pairs, ↓wo_no, ↓wo_sm, ↓kSm_eq, ↓we_sl, ↓kSl1_eq, ↓kSl2_eq, ↓kSl3_eq, ↓kSl4_eq, ↓we_m0, ↓we_m1, ↓kM0_eq, ↓kM1_eq, ↓kM1b_eq, ↓kM1c_eq, ↓wg_slot, ↓kGSlot_eq, ↓wgs_nil, ↓wgs_cons, ↓kGs_eq, ↓wg_unp, ↓wi_any, ↓kIAnyA_eq, ↓kIAny_l, ↓kIAny_t, ↓kIAny_s, ↓wi_r1, ↓wi_r2, ↓kR1_eq, ↓kR2_eq, ↓kR2a_eq, ↓we_lc, ↓kLc_eq, ↓kLcE_eq, ↓kLcF_eq, ↓kLcR_eq, ↓kLcT_eq, ↓kLcB_t, ↓kLcB_f, ↓wt_yes, ↓ws_skip, ↓ws_seq, ↓kSeq_nx, ↓kSeq_rt, ↓kSeq_bk, ↓kSeq_ct, ↓ws_expr, ↓kExpr_eq, ↓ws_set, ↓kSet_eq, ↓kSetL_eq, ↓kSetV_fz, ↓kSetV_own, ↓kSetV_plc, ↓kSetP_own, ↓kSetP_ref, ↓kSetP_fz, ↓ws_asg, ↓kAsg_fz, ↓kAsgB_eq, ↓ws_ret, ↓kRet_fz, ↓kRet_own, ↓kRet_plc, ↓kRetP_own, ↓kRetP_ref, ↓ws_retN, ↓ws_if, ↓kIf_t, ↓kIf_f, ↓ws_brk, ↓ws_cnt, ↓ws_for, ↓kFor_eq, ↓kLoop_nx, ↓kLoop_ct, ↓kLoop_bk, ↓kLoop_rt, ↓kBody_eq, ↓wl_eq, ↓kOwnL_own, ↓kOwnL_ref, ↓ws_setIx, ↓kSI1_eq, ↓kSI2_eq, ↓kSI3_eq, ↓kSI4_eq, ↓kSI5_eq, ↓we_app, ↓kAp0_eq, ↓kAp1_eq, ↓kAp2_eq, ↓kAp3_eq, ↓we_user, ↓kUsr_eq, ↓kUsr1_eq, ↓kUsr2_eq, ↓kUsr3_fz, ↓kUsr3_own, ↓warg_nil, ↓warg_fz, ↓warg_own, ↓warg_plc, ↓kArg1_eq, ↓kArg2_eq, ↓kArgP_own, ↓kArgP_ref, ↓kArgP_fz, ↓kArgP_rfz, ↓wc_run, ↓kRun_rt, ↓kRun_nx, ↓kRunR_fz, ↓kRunR_own, ↓wex_nil, ↓wex_fz, ↓wex_ref, ↓wex_rfz, ↓kEx_eq, ↓we_rev, ↓kRev0_eq, ↓kRev_l, ↓wk_eq, ↓kOwnK_own, ↓kOwnK_ref, ↓ws_setKey, ↓kSK1_eq, ↓kSK2_eq, ↓kSK3_eq, ↓kSK4_s, ↓kSK4_i, ↓kSK5_eq, ↓kSK6_eq, ↓we_get1, ↓kG1_eq, ↓kG2_d, ↓kG3_eq, ↓kG4_d, ↓kG5_s, ↓kG5_i, ↓we_get2, ↓kH1_eq, ↓kH2_d, ↓kH3_eq, ↓kH3b_eq, ↓kH4_d, ↓kH5_s, ↓kH5_i, ↓kWh_t, ↓kWh_f, ↓ws_while, ↓we_ext, ↓kEx0_eq, ↓kEx1_eq, ↓kEx3_eq, ↓kJ_nx, ↓kJ_rt, ↓kJ_bk, ↓kJ_ct, ↓kIs_eq, ↓kIsE_eq, wp_some, backSVs_nil, backSVs_cons, lock_unb, lock_fz, lock_own, plain_fz, plain_own, enter_fz, enter_own, put_ownE, put_refE, back_oo, back_of, back_ro, back_rf, back_fz, back_rfz, freeze_own, freeze_ref, freeze_fz, backAt_eq, findSV_nil, findSV_nil2, findSV_plc, findSV_fz, findSV_own, apart_nil, apart_fz, apart_own, apart_plc, placed_nil, placed_fz, placed_own, placed_plc, wipeE_nil, wipeE_cons, backE_nil, backE_cons, unlocked_nil, unlocked_cons, List.set_cons_zero, List.set_cons_succ, List.getD_cons_zero, List.getD_cons_succ, List.getElem?_cons_zero, List.getElem?_cons_succ, List.map_cons, List.map_nil, List.cons_append, List.nil_append, List.replicate_succ, List.replicate_zero, List.length_cons, List.length_nil, List.all_cons, List.all_nil, Nat.reduceSub, Nat.reduceAdd, Nat.reduceLeDiff, Nat.reduceEqDiff, Nat.reduceLT, Nat.zero_add, Bool.not_true, Bool.not_false, Bool.and_true, Bool.true_and, Bool.and_self, and_true, true_and, if_true, reduceIte, reduceCtorEq, decide_true, decide_false, Bool.false_eq_true, Bool.or_false, Bool.or_true, Bool.false_or, Bool.true_or, Bool.and_false, Bool.false_and, Nat.le_refl, lineN, Nat.one_ne_zero, Nat.zero_ne_one, addD_i, subD_i, negD_i, cmpI_i, eqD_i, neD_i, eqD_s, neD_s, eqD_b, neD_b, isD_n, isD_b, isNotD_n, isNotD_b, isBool_b, isNone_n, isNone_b, isNone_i, isNone_s, isNone_l, isNone_t, isNone_d, isi_eq, lenD_l, lenD_t, absD_n, maxD_m, minD_m, intD_i, listD_l, listD_t, tupleD_l, tupleD_t, isiB, mulSD_i, divD_i, modD_i, powD_i, ixD_l, ixD_t, ixD_s, slD_l, slD_t, slD_s, lenD_s, addD_s, addD_l, addD_t, strD_i, wp_bind, wp_guard, atI_0, atI_1, atI_2, atI_3, atI_4, ixN_0, ixN_1, ixN_2, Int.reduceNeg, Int.reduceSub, Int.reduceAdd, listD_s, tupleD_s, mulSD_s, small64_eq, decide_eq_true_eq, or_true, true_or, Int.reducePow, Int.reduceToNat, Int.reduceLE, Int.reduceLT, Int.reduceMul, Int.reduceEq, Int.zero_add, Nat.reducePow, Nat.reduceMul, Int.reduceAbs, rangeD_1, rangeD_2, rangeD_3, sortedD_l, maxLD_l, minLD_l, sumLD_l, reprD_1, ixD_ds, ixD_di, inD_ds, inD_di, notInD_ds, notInD_di, dictPD_l, intsOf_nil, intsOf_cons, Option.bind_some, List.max?_cons', List.min?_cons', List.foldl_cons, List.foldl_nil, kDictb_s, kDictb_int, Int.cast_ofNat_Int, upperD_eq, cutS_S, S_cps, S_len', SX.S_len, SX.S_cat, S_mk, repS_S, inD_S, notInD_S, signD_S, ixD_S, cutG_none, cutG_but, cutD_G, lit_0, lit_1, lit_2, lit_3, lit_4])
  refine take_ok (by decide) (by decide) fun r4 p4 c4 a4 b4 => ?_
  (try simp only [↓wx_0, ↓wx_s, ↓wv_fz, ↓wv_own, ↓wv_plc, ↓kView_fz, ↓kView_own, ↓kView_ref, ↓kView_rfz, ↓wf_fz, ↓wf_own, ↓wf_plc, ↓kFix_fz, ↓kFix_rfz, ↓kFix_own, ↓kFix_ref, ↓we_lit, ↓we_slot, ↓kSlot_fz, ↓kSlot_rfz, ↓kSlot_own, ↓kSlot_ref, ↓wa_nil, ↓wa_cons, ↓kCons1_eq, ↓kCons2_eq, ↓wvs_nil, ↓wvs_cons, ↓kVs1_eq, ↓kVs2_eq, ↓we_op2, ↓kOp2a_eq, ↓kOp2b_eq, ↓kOp2c_eq, ↓kOp2d_eq, ↓we_op1, ↓kOp1a_eq, ↓kOp1b_eq, ↓we_call, ↓kCalla_eq, ↓kCallb_eq, ↓wt_asT, ↓kAsT_eq, ↓wt_and, ↓wt_or, ↓wt_not, ↓kAnd_t, ↓kAnd_f, ↓kOr_t, ↓kOr_f, ↓kNot_eq, ↓we_eT, ↓kET_eq, ↓we_if, ↓kIfE_t, ↓kIfE_f, ↓we_chain, ↓kCh1_eq, ↓kCh2_eq, ↓kCh3_eq, ↓kCh4_eq, ↓kCh5_t, ↓kCh5_f, ↓wfs_nil, ↓wfs_cons, ↓kFs1_eq, ↓kFs2_eq, ↓we_tup, ↓we_lst, ↓kTup_eq, ↓kTupb_eq, ↓kLst_eq, ↓kLstb_eq, ↓we_dict, ↓kDict_eq, ↓kDictb_nil, ↓we_dictT, ↓kDictT_eq, ↓kDictTb_2, ↓wa_pairs0, ↓wa_pairs, ↓wo_no, ↓wo_sm, ↓kSm_eq, ↓we_sl, ↓kSl1_eq, ↓kSl2_eq, ↓kSl3_eq, ↓kSl4_eq, ↓we_m0, ↓we_m1, ↓kM0_eq, ↓kM1_eq, ↓kM1b_eq, ↓kM1c_eq, ↓wg_slot, ↓kGSlot_eq, ↓wgs_nil, ↓wgs_cons, ↓kGs_eq, ↓wg_unp, ↓wi_any, ↓kIAnyA_eq, ↓kIAny_l, ↓kIAny_t, ↓kIAny_s, ↓wi_r1, ↓wi_r2, ↓kR1_eq, ↓kR2_eq, ↓kR2a_eq, ↓we_lc, ↓kLc_eq, ↓kLcE_eq, ↓kLcF_eq, ↓kLcR_eq, ↓kLcT_eq, ↓kLcB_t, ↓kLcB_f, ↓wt_yes, ↓ws_skip, ↓ws_seq, ↓kSeq_nx, ↓kSeq_rt, ↓kSeq_bk, ↓kSeq_ct, ↓ws_expr, ↓kExpr_eq, ↓ws_set, ↓kSet_eq, ↓kSetL_eq, ↓kSetV_fz, ↓kSetV_own, ↓kSetV_plc, ↓kSetP_own, ↓kSetP_ref, ↓kSetP_fz, ↓ws_asg, ↓kAsg_fz, ↓kAsgB_eq, ↓ws_ret, ↓kRet_fz, ↓kRet_own, ↓kRet_plc, ↓kRetP_own, ↓kRetP_ref, ↓ws_retN, ↓ws_if, ↓kIf_t, ↓kIf_f, ↓ws_brk, ↓ws_cnt, ↓ws_for, ↓kFor_eq, ↓kLoop_nx, ↓kLoop_ct, ↓kLoop_bk, ↓kLoop_rt, ↓kBody_eq, ↓wl_eq, ↓kOwnL_own, ↓kOwnL_ref, ↓ws_setIx, ↓kSI1_eq, ↓kSI2_eq, ↓kSI3_eq, ↓kSI4_eq, ↓kSI5_eq, ↓we_app, ↓kAp0_eq, ↓kAp1_eq, ↓kAp2_eq, ↓kAp3_eq, ↓we_user, ↓kUsr_eq, ↓kUsr1_eq, ↓kUsr2_eq, ↓kUsr3_fz, ↓kUsr3_own, ↓warg_nil, ↓warg_fz, ↓warg_own, ↓warg_plc, ↓kArg1_eq, ↓kArg2_eq, ↓kArgP_own, ↓kArgP_ref, ↓kArgP_fz, ↓kArgP_rfz, ↓wc_run, ↓kRun_rt, ↓kRun_nx, ↓kRunR_fz, ↓kRunR_own, ↓wex_nil, ↓wex_fz, ↓wex_ref, ↓wex_rfz, ↓kEx_eq, ↓we_rev, ↓kRev0_eq, ↓kRev_l, ↓wk_eq, ↓kOwnK_own, ↓kOwnK_ref, ↓ws_setKey, ↓kSK1_eq, ↓kSK2_eq, ↓kSK3_eq, ↓kSK4_s, ↓kSK4_i, ↓kSK5_eq, ↓kSK6_eq, ↓we_get1, ↓kG1_eq, ↓kG2_d, ↓kG3_eq, ↓kG4_d, ↓kG5_s, ↓kG5_i, ↓we_get2, ↓kH1_eq, ↓kH2_d, ↓kH3_eq, ↓kH3b_eq, ↓kH4_d, ↓kH5_s, ↓kH5_i, ↓kWh_t, ↓kWh_f, ↓ws_while, ↓we_ext, ↓kEx0_eq, ↓kEx1_eq, ↓kEx3_eq, ↓kJ_nx, ↓kJ_rt, ↓kJ_bk, ↓kJ_ct, ↓kIs_eq, ↓kIsE_eq, wp_some, backSVs_nil, backSVs_cons, lock_unb, lock_fz, lock_own, plain_fz, plain_own, enter_fz, enter_own, put_ownE, put_refE, back_oo, back_of, back_ro, back_rf, back_fz, back_rfz, freeze_own, freeze_ref, freeze_fz, backAt_eq, findSV_nil, findSV_nil2, findSV_plc, findSV_fz, findSV_own, apart_nil, apart_fz, apart_own, apart_plc, placed_nil, placed_fz, placed_own, placed_plc, wipeE_nil, wipeE_cons, backE_nil, backE_cons, unlocked_nil, unlocked_cons, List.set_cons_zero, List.set_cons_succ, List.getD_cons_zero, List.getD_cons_succ, List.getElem?_cons_zero, List.getElem?_cons_succ, List.map_cons, List.map_nil, List.cons_append, List.nil_append, List.replicate_succ, List.replicate_zero, List.length_cons, List.length_nil, List.all_cons, List.all_nil, Nat.reduceSub, Nat.reduceAdd, Nat.reduceLeDiff, Nat.reduceEqDiff, Nat.reduceLT, Nat.zero_add, Bool.not_true, Bool.not_false, Bool.and_true, Bool.true_and, Bool.and_self, and_true, true_and, if_true, reduceIte, reduceCtorEq, decide_true, decide_false, Bool.false_eq_true, Bool.or_false, Bool.or_true, Bool.false_or, Bool.true_or, Bool.and_false, Bool.false_and, Nat.le_refl, lineN, Nat.one_ne_zero, Nat.zero_ne_one, addD_i, subD_i, negD_i, cmpI_i, eqD_i, neD_i, eqD_s, neD_s, eqD_b, neD_b, isD_n, isD_b, isNotD_n, isNotD_b, isBool_b, isNone_n, isNone_b, isNone_i, isNone_s, isNone_l, isNone_t, isNone_d, isi_eq, lenD_l, lenD_t, absD_n, maxD_m, minD_m, intD_i, listD_l, listD_t, tupleD_l, tupleD_t, isiB, mulSD_i, divD_i, modD_i, powD_i, ixD_l, ixD_t, ixD_s, slD_l, slD_t, slD_s, lenD_s, addD_s, addD_l, addD_t, strD_i, wp_bind, wp_guard, atI_0, atI_1, atI_2, atI_3, atI_4, ixN_0, ixN_1, ixN_2, Int.reduceNeg, Int.reduceSub, Int.reduceAdd, listD_s, tupleD_s, mulSD_s, small64_eq, decide_eq_true_eq, or_true, true_or, Int.reducePow, Int.reduceToNat, Int.reduceLE, Int.reduceLT, Int.reduceMul, Int.reduceEq, Int.zero_add, Nat.reducePow, Nat.reduceMul, Int.reduceAbs, rangeD_1, rangeD_2, rangeD_3, sortedD_l, maxLD_l, minLD_l, sumLD_l, reprD_1, ixD_ds, ixD_di, inD_ds, inD_di, notInD_ds, notInD_di, dictPD_l, intsOf_nil, intsOf_cons, Option.bind_some, List.max?_cons', List.min?_cons', List.foldl_cons, List.foldl_nil, kDictb_s, kDictb_int, Int.cast_ofNat_Int, upperD_eq, cutS_S, S_cps, S_len', SX.S_len, SX.S_cat, S_mk, repS_S, inD_S, notInD_S, signD_S, ixD_S, cutG_none, cutG_but, cutD_G, lit_0, lit_1, lit_2, lit_3, lit_4])
  refine wp_at a4 b4 fun d hd => ?_
  have hm := List.mem_of_getElem? hd
  simp only [List.mem_cons, List.not_mem_nil, or_false] at hm
  rcases hm with rfl | rfl | rfl | rfl | rfl
  all_goals ((try simp only [↓wx_0, ↓wx_s, ↓wv_fz, ↓wv_own, ↓wv_plc, ↓kView_fz, ↓kView_own, ↓kView_ref, ↓kView_rfz, ↓wf_fz, ↓wf_own, ↓wf_plc, ↓kFix_fz, ↓kFix_rfz, ↓kFix_own, ↓kFix_ref, ↓we_lit, ↓we_slot, ↓kSlot_fz, ↓kSlot_rfz, ↓kSlot_own, ↓kSlot_ref, ↓wa_nil, ↓wa_cons, ↓kCons1_eq, ↓kCons2_eq, ↓wvs_nil, ↓wvs_cons, ↓kVs1_eq, ↓kVs2_eq, ↓we_op2, ↓kOp2a_eq, ↓kOp2b_eq, ↓kOp2c_eq, ↓kOp2d_eq, ↓we_op1, ↓kOp1a_eq, ↓kOp1b_eq, ↓we_call, ↓kCalla_eq, ↓kCallb_eq, ↓wt_asT, ↓kAsT_eq, ↓wt_and, ↓wt_or, ↓wt_not, ↓kAnd_t, ↓kAnd_f, ↓kOr_t, ↓kOr_f, ↓kNot_eq, ↓we_eT, ↓kET_eq, ↓we_if, ↓kIfE_t, ↓kIfE_f, ↓we_chain, ↓kCh1_eq, ↓kCh2_eq, ↓kCh3_eq, ↓kCh4_eq, ↓kCh5_t, ↓kCh5_f, ↓wfs_nil, ↓wfs_cons, ↓kFs1_eq, ↓kFs2_eq, ↓we_tup, ↓we_lst, ↓kTup_eq, ↓kTupb_eq, ↓kLst_eq, ↓kLstb_eq, ↓we_dict, ↓kDict_eq, ↓kDictb_nil, ↓we_dictT, ↓kDictT_eq, ↓kDictTb_2, ↓wa_pairs0, ↓wa_pairs, ↓wo_no, ↓wo_sm, ↓kSm_eq, ↓we_sl, ↓kSl1_eq, ↓kSl2_eq, ↓kSl3_eq, ↓kSl4_eq, ↓we_m0, ↓we_m1, ↓kM0_eq, ↓kM1_eq, ↓kM1b_eq, ↓kM1c_eq, ↓wg_slot, ↓kGSlot_eq, ↓wgs_nil, ↓wgs_cons, ↓kGs_eq, ↓wg_unp, ↓wi_any, ↓kIAnyA_eq, ↓kIAny_l, ↓kIAny_t, ↓kIAny_s, ↓wi_r1, ↓wi_r2, ↓kR1_eq, ↓kR2_eq, ↓kR2a_eq, ↓we_lc, ↓kLc_eq, ↓kLcE_eq, ↓kLcF_eq, ↓kLcR_eq, ↓kLcT_eq, ↓kLcB_t, ↓kLcB_f, ↓wt_yes, ↓ws_skip, ↓ws_seq, ↓kSeq_nx, ↓kSeq_rt, ↓kSeq_bk, ↓kSeq_ct, ↓ws_expr, ↓kExpr_eq, ↓ws_set, ↓kSet_eq, ↓kSetL_eq, ↓kSetV_fz, ↓kSetV_own, ↓kSetV_plc, ↓kSetP_own, ↓kSetP_ref, ↓kSetP_fz, ↓ws_asg, ↓kAsg_fz, ↓kAsgB_eq, ↓ws_ret, ↓kRet_fz, ↓kRet_own, ↓kRet_plc, ↓kRetP_own, ↓kRetP_ref, ↓ws_retN, ↓ws_if, ↓kIf_t, ↓kIf_f, ↓ws_brk, ↓ws_cnt, ↓ws_for, ↓kFor_eq, ↓kLoop_nx, ↓kLoop_ct, ↓kLoop_bk, ↓kLoop_rt, ↓kBody_eq, ↓wl_eq, ↓kOwnL_own, ↓kOwnL_ref, ↓ws_setIx, ↓kSI1_eq, ↓kSI2_eq, ↓kSI3_eq, ↓kSI4_eq, ↓kSI5_eq, ↓we_app, ↓kAp0_eq, ↓kAp1_eq, ↓kAp2_eq, ↓kAp3_eq, ↓we_user, ↓kUsr_eq, ↓kUsr1_eq, ↓kUsr2_eq, ↓kUsr3_fz, ↓kUsr3_own, ↓warg_nil, ↓warg_fz, ↓warg_own, ↓warg_plc, ↓kArg1_eq, ↓kArg2_eq, ↓kArgP_own, ↓kArgP_ref, ↓kArgP_fz, ↓kArgP_rfz, ↓wc_run, ↓kRun_rt, ↓kRun_nx, ↓kRunR_fz, ↓kRunR_own, ↓wex_nil, ↓wex_fz, ↓wex_ref, ↓wex_rfz, ↓kEx_eq, ↓we_rev, ↓kRev0_eq, ↓kRev_l, ↓wk_eq, ↓kOwnK_own, ↓kOwnK_ref, ↓ws_setKey, ↓kSK1_eq, ↓kSK2_eq, ↓kSK3_eq, ↓kSK4_s, ↓kSK4_i, ↓kSK5_eq, ↓kSK6_eq, ↓we_get1, ↓kG1_eq, ↓kG2_d, ↓kG3_eq, ↓kG4_d, ↓kG5_s, ↓kG5_i, ↓we_get2, ↓kH1_eq, ↓kH2_d, ↓kH3_eq, ↓kH3b_eq, ↓kH4_d, ↓kH5_s, ↓kH5_i, ↓kWh_t, ↓kWh_f, ↓ws_while, ↓we_ext, ↓kEx0_eq, ↓kEx1_eq, ↓kEx3_eq, ↓kJ_nx, ↓kJ_rt, ↓kJ_bk, ↓kJ_ct, ↓kIs_eq, ↓kIsE_eq, wp_some, backSVs_nil, backSVs_cons, lock_unb, lock_fz, lock_own, plain_fz, plain_own, enter_fz, enter_own, put_ownE, put_refE, back_oo, back_of, back_ro, back_rf, back_fz, back_rfz, freeze_own, freeze_ref, freeze_fz, backAt_eq, findSV_nil, findSV_nil2, findSV_plc, findSV_fz, findSV_own, apart_nil, apart_fz, apart_own, apart_plc, placed_nil, placed_fz, placed_own, placed_plc, wipeE_nil, wipeE_cons, backE_nil, backE_cons, unlocked_nil, unlocked_cons, List.set_cons_zero, List.set_cons_succ, List.getD_cons_zero, List.getD_cons_succ, List.getElem?_cons_zero, List.getElem?_cons_succ, List.map_cons, List.map_nil, List.cons_append, List.nil_append, List.replicate_succ, List.replicate_zero, List.length_cons, List.length_nil, List.all_cons, List.all_nil, Nat.reduceSub, Nat.reduceAdd, Nat.reduceLeDiff, Nat.reduceEqDiff, Nat.reduceLT, Nat.zero_add, Bool.not_true, Bool.not_false, Bool.and_true, Bool.true_and, Bool.and_self, and_true, true_and, if_true, reduceIte, reduceCtorEq, decide_true, decide_false, Bool.false_eq_true, Bool.or_false, Bool.or_true, Bool.false_or, Bool.true_or, Bool.and_false, Bool.false_and, Nat.le_refl, lineN, Nat.one_ne_zero, Nat.zero_ne_one, addD_i, subD_i, negD_i, cmpI_i, eqD_i, neD_i, eqD_s, neD_s, eqD_b, neD_b, isD_n, isD_b, isNotD_n, isNotD_b, isBool_b, isNone_n, isNone_b, isNone_i, isNone_s, isNone_l, isNone_t, isNone_d, isi_eq, lenD_l, lenD_t, absD_n, maxD_m, minD_m, intD_i, listD_l, listD_t, tupleD_l, tupleD_t, isiB, mulSD_i, divD_i, modD_i, powD_i, ixD_l, ixD_t, ixD_s, slD_l, slD_t, slD_s, lenD_s, addD_s, addD_l, addD_t, strD_i, wp_bind, wp_guard, atI_0, atI_1, atI_2, atI_3, atI_4, ixN_0, ixN_1, ixN_2, Int.reduceNeg, Int.reduceSub, Int.reduceAdd, listD_s, tupleD_s, mulSD_s, small64_eq, decide_eq_true_eq, or_true, true_or, Int.reducePow, Int.reduceToNat, Int.reduceLE, Int.reduceLT, Int.reduceMul, Int.reduceEq, Int.zero_add, Nat.reducePow, Nat.reduceMul, Int.reduceAbs, rangeD_1, rangeD_2, rangeD_3, sortedD_l, maxLD_l, minLD_l, sumLD_l, reprD_1, ixD_ds, ixD_di, inD_ds, inD_di, notInD_ds, notInD_di, dictPD_l, intsOf_nil, intsOf_cons, Option.bind_some, List.max?_cons', List.min?_cons', List.foldl_cons, List.foldl_nil, kDictb_s, kDictb_int, Int.cast_ofNat_Int, upperD_eq, cutS_S, S_cps, S_len', SX.S_len, SX.S_cat, S_mk, repS_S, inD_S, notInD_S, signD_S, ixD_S, cutG_none, cutG_but, cutD_G, lit_0, lit_1, lit_2, lit_3, lit_4]); exact k _ _ _ (by omega))
theorem spot_ok {ns : List Int} {p c : Int} {P : List SV → RV → Prop} (k : ∀ x y p' c' : Int, nrI x → nrI y → P [.own (penD ns p' c')] (.fz (.tuple [.int x, .int y]))) : WC c_law_spot [.own (penD ns p c)] P := by
  unfold c_law_spot b_law_spot
  (try simp only [↓wx_0, ↓wx_s, ↓wv_fz, ↓wv_own, ↓wv_plc, ↓kView_fz, ↓kView_own, ↓kView_ref, ↓kView_rfz, ↓wf_fz, ↓wf_own, ↓wf_plc, ↓kFix_fz, ↓kFix_rfz, ↓kFix_own, ↓kFix_ref, ↓we_lit, ↓we_slot, ↓kSlot_fz, ↓kSlot_rfz, ↓kSlot_own, ↓kSlot_ref, ↓wa_nil, ↓wa_cons, ↓kCons1_eq, ↓kCons2_eq, ↓wvs_nil, ↓wvs_cons, ↓kVs1_eq, ↓kVs2_eq, ↓we_op2, ↓kOp2a_eq, ↓kOp2b_eq, ↓kOp2c_eq, ↓kOp2d_eq, ↓we_op1, ↓kOp1a_eq, ↓kOp1b_eq, ↓we_call, ↓kCalla_eq, ↓kCallb_eq, ↓wt_asT, ↓kAsT_eq, ↓wt_and, ↓wt_or, ↓wt_not, ↓kAnd_t, ↓kAnd_f, ↓kOr_t, ↓kOr_f, ↓kNot_eq, ↓we_eT, ↓kET_eq, ↓we_if, ↓kIfE_t, ↓kIfE_f, ↓we_chain, ↓kCh1_eq, ↓kCh2_eq, ↓kCh3_eq, ↓kCh4_eq, ↓kCh5_t, ↓kCh5_f, ↓wfs_nil, ↓wfs_cons, ↓kFs1_eq, ↓kFs2_eq, ↓we_tup, ↓we_lst, ↓kTup_eq, ↓kTupb_eq, ↓kLst_eq, ↓kLstb_eq, ↓we_dict, ↓kDict_eq, ↓kDictb_nil, ↓we_dictT, ↓kDictT_eq, ↓kDictTb_2, ↓wa_pairs0, ↓wa_pairs, ↓wo_no, ↓wo_sm, ↓kSm_eq, ↓we_sl, ↓kSl1_eq, ↓kSl2_eq, ↓kSl3_eq, ↓kSl4_eq, ↓we_m0, ↓we_m1, ↓kM0_eq, ↓kM1_eq, ↓kM1b_eq, ↓kM1c_eq, ↓wg_slot, ↓kGSlot_eq, ↓wgs_nil, ↓wgs_cons, ↓kGs_eq, ↓wg_unp, ↓wi_any, ↓kIAnyA_eq, ↓kIAny_l, ↓kIAny_t, ↓kIAny_s, ↓wi_r1, ↓wi_r2, ↓kR1_eq, ↓kR2_eq, ↓kR2a_eq, ↓we_lc, ↓kLc_eq, ↓kLcE_eq, ↓kLcF_eq, ↓kLcR_eq, ↓kLcT_eq, ↓kLcB_t, ↓kLcB_f, ↓wt_yes, ↓ws_skip, ↓ws_seq, ↓kSeq_nx, ↓kSeq_rt, ↓kSeq_bk, ↓kSeq_ct, ↓ws_expr, ↓kExpr_eq, ↓ws_set, ↓kSet_eq, ↓kSetL_eq, ↓kSetV_fz, ↓kSetV_own, ↓kSetV_plc, ↓kSetP_own, ↓kSetP_ref, ↓kSetP_fz, ↓ws_asg, ↓kAsg_fz, ↓kAsgB_eq, ↓ws_ret, ↓kRet_fz, ↓kRet_own, ↓kRet_plc, ↓kRetP_own, ↓kRetP_ref, ↓ws_retN, ↓ws_if, ↓kIf_t, ↓kIf_f, ↓ws_brk, ↓ws_cnt, ↓ws_for, ↓kFor_eq, ↓kLoop_nx, ↓kLoop_ct, ↓kLoop_bk, ↓kLoop_rt, ↓kBody_eq, ↓wl_eq, ↓kOwnL_own, ↓kOwnL_ref, ↓ws_setIx, ↓kSI1_eq, ↓kSI2_eq, ↓kSI3_eq, ↓kSI4_eq, ↓kSI5_eq, ↓we_app, ↓kAp0_eq, ↓kAp1_eq, ↓kAp2_eq, ↓kAp3_eq, ↓we_user, ↓kUsr_eq, ↓kUsr1_eq, ↓kUsr2_eq, ↓kUsr3_fz, ↓kUsr3_own, ↓warg_nil, ↓warg_fz, ↓warg_own, ↓warg_plc, ↓kArg1_eq, ↓kArg2_eq, ↓kArgP_own, ↓kArgP_ref, ↓kArgP_fz, ↓kArgP_rfz, ↓wc_run, ↓kRun_rt, ↓kRun_nx, ↓kRunR_fz, ↓kRunR_own, ↓wex_nil, ↓wex_fz, ↓wex_ref, ↓wex_rfz, ↓kEx_eq, ↓we_rev, ↓kRev0_eq, ↓kRev_l, ↓wk_eq, ↓kOwnK_own, ↓kOwnK_ref, ↓ws_setKey, ↓kSK1_eq, ↓kSK2_eq, ↓kSK3_eq, ↓kSK4_s, ↓kSK4_i, ↓kSK5_eq, ↓kSK6_eq, ↓we_get1, ↓kG1_eq, ↓kG2_d, ↓kG3_eq, ↓kG4_d, ↓kG5_s, ↓kG5_i, ↓we_get2, ↓kH1_eq, ↓kH2_d, ↓kH3_eq, ↓kH3b_eq, ↓kH4_d, ↓kH5_s, ↓kH5_i, ↓kWh_t, ↓kWh_f, ↓ws_while, ↓we_ext, ↓kEx0_eq, ↓kEx1_eq, ↓kEx3_eq, ↓kJ_nx, ↓kJ_rt, ↓kJ_bk, ↓kJ_ct, ↓kIs_eq, ↓kIsE_eq, wp_some, backSVs_nil, backSVs_cons, lock_unb, lock_fz, lock_own, plain_fz, plain_own, enter_fz, enter_own, put_ownE, put_refE, back_oo, back_of, back_ro, back_rf, back_fz, back_rfz, freeze_own, freeze_ref, freeze_fz, backAt_eq, findSV_nil, findSV_nil2, findSV_plc, findSV_fz, findSV_own, apart_nil, apart_fz, apart_own, apart_plc, placed_nil, placed_fz, placed_own, placed_plc, wipeE_nil, wipeE_cons, backE_nil, backE_cons, unlocked_nil, unlocked_cons, List.set_cons_zero, List.set_cons_succ, List.getD_cons_zero, List.getD_cons_succ, List.getElem?_cons_zero, List.getElem?_cons_succ, List.map_cons, List.map_nil, List.cons_append, List.nil_append, List.replicate_succ, List.replicate_zero, List.length_cons, List.length_nil, List.all_cons, List.all_nil, Nat.reduceSub, Nat.reduceAdd, Nat.reduceLeDiff, Nat.reduceEqDiff, Nat.reduceLT, Nat.zero_add, Bool.not_true, Bool.not_false, Bool.and_true, Bool.true_and, Bool.and_self, and_true, true_and, if_true, reduceIte, reduceCtorEq, decide_true, decide_false, Bool.false_eq_true, Bool.or_false, Bool.or_true, Bool.false_or, Bool.true_or, Bool.and_false, Bool.false_and, Nat.le_refl, lineN, Nat.one_ne_zero, Nat.zero_ne_one, addD_i, subD_i, negD_i, cmpI_i, eqD_i, neD_i, eqD_s, neD_s, eqD_b, neD_b, isD_n, isD_b, isNotD_n, isNotD_b, isBool_b, isNone_n, isNone_b, isNone_i, isNone_s, isNone_l, isNone_t, isNone_d, isi_eq, lenD_l, lenD_t, absD_n, maxD_m, minD_m, intD_i, listD_l, listD_t, tupleD_l, tupleD_t, isiB, mulSD_i, divD_i, modD_i, powD_i, ixD_l, ixD_t, ixD_s, slD_l, slD_t, slD_s, lenD_s, addD_s, addD_l, addD_t, strD_i, wp_bind, wp_guard, atI_0, atI_1, atI_2, atI_3, atI_4, ixN_0, ixN_1, ixN_2, Int.reduceNeg, Int.reduceSub, Int.reduceAdd, listD_s, tupleD_s, mulSD_s, small64_eq, decide_eq_true_eq, or_true, true_or, Int.reducePow, Int.reduceToNat, Int.reduceLE, Int.reduceLT, Int.reduceMul, Int.reduceEq, Int.zero_add, Nat.reducePow, Nat.reduceMul, Int.reduceAbs, rangeD_1, rangeD_2, rangeD_3, sortedD_l, maxLD_l, minLD_l, sumLD_l, reprD_1, ixD_ds, ixD_di, inD_ds, inD_di, notInD_ds, notInD_di, dictPD_l, intsOf_nil, intsOf_cons, Option.bind_some, List.max?_cons', List.min?_cons', List.foldl_cons, List.foldl_nil, kDictb_s, kDictb_int, Int.cast_ofNat_Int, upperD_eq, cutS_S, S_cps, S_len', SX.S_len, SX.S_cat, S_mk, repS_S, inD_S, notInD_S, signD_S, ixD_S, cutG_none, cutG_but, cutD_G, lit_0, lit_1, lit_2, lit_3, lit_4])
  refine number_ok fun x p1 c1 h1 => ?_
  (try simp only [↓wx_0, ↓wx_s, ↓wv_fz, ↓wv_own, ↓wv_plc, ↓kView_fz, ↓kView_own, ↓kView_ref, ↓kView_rfz, ↓wf_fz, ↓wf_own, ↓wf_plc, ↓kFix_fz, ↓kFix_rfz, ↓kFix_own, ↓kFix_ref, ↓we_lit, ↓we_slot, ↓kSlot_fz, ↓kSlot_rfz, ↓kSlot_own, ↓kSlot_ref, ↓wa_nil, ↓wa_cons, ↓kCons1_eq, ↓kCons2_eq, ↓wvs_nil, ↓wvs_cons, ↓kVs1_eq, ↓kVs2_eq, ↓we_op2, ↓kOp2a_eq, ↓kOp2b_eq, ↓kOp2c_eq, ↓kOp2d_eq, ↓we_op1, ↓kOp1a_eq, ↓kOp1b_eq, ↓we_call, ↓kCalla_eq, ↓kCallb_eq, ↓wt_asT, ↓kAsT_eq, ↓wt_and, ↓wt_or, ↓wt_not, ↓kAnd_t, ↓kAnd_f, ↓kOr_t, ↓kOr_f, ↓kNot_eq, ↓we_eT, ↓kET_eq, ↓we_if, ↓kIfE_t, ↓kIfE_f, ↓we_chain, ↓kCh1_eq, ↓kCh2_eq, ↓kCh3_eq, ↓kCh4_eq, ↓kCh5_t, ↓kCh5_f, ↓wfs_nil, ↓wfs_cons, ↓kFs1_eq, ↓kFs2_eq, ↓we_tup, ↓we_lst, ↓kTup_eq, ↓kTupb_eq, ↓kLst_eq, ↓kLstb_eq, ↓we_dict, ↓kDict_eq, ↓kDictb_nil, ↓we_dictT, ↓kDictT_eq, ↓kDictTb_2, ↓wa_pairs0, ↓wa_pairs, ↓wo_no, ↓wo_sm, ↓kSm_eq, ↓we_sl, ↓kSl1_eq, ↓kSl2_eq, ↓kSl3_eq, ↓kSl4_eq, ↓we_m0, ↓we_m1, ↓kM0_eq, ↓kM1_eq, ↓kM1b_eq, ↓kM1c_eq, ↓wg_slot, ↓kGSlot_eq, ↓wgs_nil, ↓wgs_cons, ↓kGs_eq, ↓wg_unp, ↓wi_any, ↓kIAnyA_eq, ↓kIAny_l, ↓kIAny_t, ↓kIAny_s, ↓wi_r1, ↓wi_r2, ↓kR1_eq, ↓kR2_eq, ↓kR2a_eq, ↓we_lc, ↓kLc_eq, ↓kLcE_eq, ↓kLcF_eq, ↓kLcR_eq, ↓kLcT_eq, ↓kLcB_t, ↓kLcB_f, ↓wt_yes, ↓ws_skip, ↓ws_seq, ↓kSeq_nx, ↓kSeq_rt, ↓kSeq_bk, ↓kSeq_ct, ↓ws_expr, ↓kExpr_eq, ↓ws_set, ↓kSet_eq, ↓kSetL_eq, ↓kSetV_fz, ↓kSetV_own, ↓kSetV_plc, ↓kSetP_own, ↓kSetP_ref, ↓kSetP_fz, ↓ws_asg, ↓kAsg_fz, ↓kAsgB_eq, ↓ws_ret, ↓kRet_fz, ↓kRet_own, ↓kRet_plc, ↓kRetP_own, ↓kRetP_ref, ↓ws_retN, ↓ws_if, ↓kIf_t, ↓kIf_f, ↓ws_brk, ↓ws_cnt, ↓ws_for, ↓kFor_eq, ↓kLoop_nx, ↓kLoop_ct, ↓kLoop_bk, ↓kLoop_rt, ↓kBody_eq, ↓wl_eq, ↓kOwnL_own, ↓kOwnL_ref, ↓ws_setIx, ↓kSI1_eq, ↓kSI2_eq, ↓kSI3_eq, ↓kSI4_eq, ↓kSI5_eq, ↓we_app, ↓kAp0_eq, ↓kAp1_eq, ↓kAp2_eq, ↓kAp3_eq, ↓we_user, ↓kUsr_eq, ↓kUsr1_eq, ↓kUsr2_eq, ↓kUsr3_fz, ↓kUsr3_own, ↓warg_nil, ↓warg_fz, ↓warg_own, ↓warg_plc, ↓kArg1_eq, ↓kArg2_eq, ↓kArgP_own, ↓kArgP_ref, ↓kArgP_fz, ↓kArgP_rfz, ↓wc_run, ↓kRun_rt, ↓kRun_nx, ↓kRunR_fz, ↓kRunR_own, ↓wex_nil, ↓wex_fz, ↓wex_ref, ↓wex_rfz, ↓kEx_eq, ↓we_rev, ↓kRev0_eq, ↓kRev_l, ↓wk_eq, ↓kOwnK_own, ↓kOwnK_ref, ↓ws_setKey, ↓kSK1_eq, ↓kSK2_eq, ↓kSK3_eq, ↓kSK4_s, ↓kSK4_i, ↓kSK5_eq, ↓kSK6_eq, ↓we_get1, ↓kG1_eq, ↓kG2_d, ↓kG3_eq, ↓kG4_d, ↓kG5_s, ↓kG5_i, ↓we_get2, ↓kH1_eq, ↓kH2_d, ↓kH3_eq, ↓kH3b_eq, ↓kH4_d, ↓kH5_s, ↓kH5_i, ↓kWh_t, ↓kWh_f, ↓ws_while, ↓we_ext, ↓kEx0_eq, ↓kEx1_eq, ↓kEx3_eq, ↓kJ_nx, ↓kJ_rt, ↓kJ_bk, ↓kJ_ct, ↓kIs_eq, ↓kIsE_eq, wp_some, backSVs_nil, backSVs_cons, lock_unb, lock_fz, lock_own, plain_fz, plain_own, enter_fz, enter_own, put_ownE, put_refE, back_oo, back_of, back_ro, back_rf, back_fz, back_rfz, freeze_own, freeze_ref, freeze_fz, backAt_eq, findSV_nil, findSV_nil2, findSV_plc, findSV_fz, findSV_own, apart_nil, apart_fz, apart_own, apart_plc, placed_nil, placed_fz, placed_own, placed_plc, wipeE_nil, wipeE_cons, backE_nil, backE_cons, unlocked_nil, unlocked_cons, List.set_cons_zero, List.set_cons_succ, List.getD_cons_zero, List.getD_cons_succ, List.getElem?_cons_zero, List.getElem?_cons_succ, List.map_cons, List.map_nil, List.cons_append, List.nil_append, List.replicate_succ, List.replicate_zero, List.length_cons, List.length_nil, List.all_cons, List.all_nil, Nat.reduceSub, Nat.reduceAdd, Nat.reduceLeDiff, Nat.reduceEqDiff, Nat.reduceLT, Nat.zero_add, Bool.not_true, Bool.not_false, Bool.and_true, Bool.true_and, Bool.and_self, and_true, true_and, if_true, reduceIte, reduceCtorEq, decide_true, decide_false, Bool.false_eq_true, Bool.or_false, Bool.or_true, Bool.false_or, Bool.true_or, Bool.and_false, Bool.false_and, Nat.le_refl, lineN, Nat.one_ne_zero, Nat.zero_ne_one, addD_i, subD_i, negD_i, cmpI_i, eqD_i, neD_i, eqD_s, neD_s, eqD_b, neD_b, isD_n, isD_b, isNotD_n, isNotD_b, isBool_b, isNone_n, isNone_b, isNone_i, isNone_s, isNone_l, isNone_t, isNone_d, isi_eq, lenD_l, lenD_t, absD_n, maxD_m, minD_m, intD_i, listD_l, listD_t, tupleD_l, tupleD_t, isiB, mulSD_i, divD_i, modD_i, powD_i, ixD_l, ixD_t, ixD_s, slD_l, slD_t, slD_s, lenD_s, addD_s, addD_l, addD_t, strD_i, wp_bind, wp_guard, atI_0, atI_1, atI_2, atI_3, atI_4, ixN_0, ixN_1, ixN_2, Int.reduceNeg, Int.reduceSub, Int.reduceAdd, listD_s, tupleD_s, mulSD_s, small64_eq, decide_eq_true_eq, or_true, true_or, Int.reducePow, Int.reduceToNat, Int.reduceLE, Int.reduceLT, Int.reduceMul, Int.reduceEq, Int.zero_add, Nat.reducePow, Nat.reduceMul, Int.reduceAbs, rangeD_1, rangeD_2, rangeD_3, sortedD_l, maxLD_l, minLD_l, sumLD_l, reprD_1, ixD_ds, ixD_di, inD_ds, inD_di, notInD_ds, notInD_di, dictPD_l, intsOf_nil, intsOf_cons, Option.bind_some, List.max?_cons', List.min?_cons', List.foldl_cons, List.foldl_nil, kDictb_s, kDictb_int, Int.cast_ofNat_Int, upperD_eq, cutS_S, S_cps, S_len', SX.S_len, SX.S_cat, S_mk, repS_S, inD_S, notInD_S, signD_S, ixD_S, cutG_none, cutG_but, cutD_G, lit_0, lit_1, lit_2, lit_3, lit_4])
  refine number_ok fun y p2 c2 h2 => ?_
  (try simp only [↓wx_0, ↓wx_s, ↓wv_fz, ↓wv_own, ↓wv_plc, ↓kView_fz, ↓kView_own, ↓kView_ref, ↓kView_rfz, ↓wf_fz, ↓wf_own, ↓wf_plc, ↓kFix_fz, ↓kFix_rfz, ↓kFix_own, ↓kFix_ref, ↓we_lit, ↓we_slot, ↓kSlot_fz, ↓kSlot_rfz, ↓kSlot_own, ↓kSlot_ref, ↓wa_nil, ↓wa_cons, ↓kCons1_eq, ↓kCons2_eq, ↓wvs_nil, ↓wvs_cons, ↓kVs1_eq, ↓kVs2_eq, ↓we_op2, ↓kOp2a_eq, ↓kOp2b_eq, ↓kOp2c_eq, ↓kOp2d_eq, ↓we_op1, ↓kOp1a_eq, ↓kOp1b_eq, ↓we_call, ↓kCalla_eq, ↓kCallb_eq, ↓wt_asT, ↓kAsT_eq, ↓wt_and, ↓wt_or, ↓wt_not, ↓kAnd_t, ↓kAnd_f, ↓kOr_t, ↓kOr_f, ↓kNot_eq, ↓we_eT, ↓kET_eq, ↓we_if, ↓kIfE_t, ↓kIfE_f, ↓we_chain, ↓kCh1_eq, ↓kCh2_eq, ↓kCh3_eq, ↓kCh4_eq, ↓kCh5_t, ↓kCh5_f, ↓wfs_nil, ↓wfs_cons, ↓kFs1_eq, ↓kFs2_eq, ↓we_tup, ↓we_lst, ↓kTup_eq, ↓kTupb_eq, ↓kLst_eq, ↓kLstb_eq, ↓we_dict, ↓kDict_eq, ↓kDictb_nil, ↓we_dictT, ↓kDictT_eq, ↓kDictTb_2, ↓wa_pairs0, ↓wa_pairs, ↓wo_no, ↓wo_sm, ↓kSm_eq, ↓we_sl, ↓kSl1_eq, ↓kSl2_eq, ↓kSl3_eq, ↓kSl4_eq, ↓we_m0, ↓we_m1, ↓kM0_eq, ↓kM1_eq, ↓kM1b_eq, ↓kM1c_eq, ↓wg_slot, ↓kGSlot_eq, ↓wgs_nil, ↓wgs_cons, ↓kGs_eq, ↓wg_unp, ↓wi_any, ↓kIAnyA_eq, ↓kIAny_l, ↓kIAny_t, ↓kIAny_s, ↓wi_r1, ↓wi_r2, ↓kR1_eq, ↓kR2_eq, ↓kR2a_eq, ↓we_lc, ↓kLc_eq, ↓kLcE_eq, ↓kLcF_eq, ↓kLcR_eq, ↓kLcT_eq, ↓kLcB_t, ↓kLcB_f, ↓wt_yes, ↓ws_skip, ↓ws_seq, ↓kSeq_nx, ↓kSeq_rt, ↓kSeq_bk, ↓kSeq_ct, ↓ws_expr, ↓kExpr_eq, ↓ws_set, ↓kSet_eq, ↓kSetL_eq, ↓kSetV_fz, ↓kSetV_own, ↓kSetV_plc, ↓kSetP_own, ↓kSetP_ref, ↓kSetP_fz, ↓ws_asg, ↓kAsg_fz, ↓kAsgB_eq, ↓ws_ret, ↓kRet_fz, ↓kRet_own, ↓kRet_plc, ↓kRetP_own, ↓kRetP_ref, ↓ws_retN, ↓ws_if, ↓kIf_t, ↓kIf_f, ↓ws_brk, ↓ws_cnt, ↓ws_for, ↓kFor_eq, ↓kLoop_nx, ↓kLoop_ct, ↓kLoop_bk, ↓kLoop_rt, ↓kBody_eq, ↓wl_eq, ↓kOwnL_own, ↓kOwnL_ref, ↓ws_setIx, ↓kSI1_eq, ↓kSI2_eq, ↓kSI3_eq, ↓kSI4_eq, ↓kSI5_eq, ↓we_app, ↓kAp0_eq, ↓kAp1_eq, ↓kAp2_eq, ↓kAp3_eq, ↓we_user, ↓kUsr_eq, ↓kUsr1_eq, ↓kUsr2_eq, ↓kUsr3_fz, ↓kUsr3_own, ↓warg_nil, ↓warg_fz, ↓warg_own, ↓warg_plc, ↓kArg1_eq, ↓kArg2_eq, ↓kArgP_own, ↓kArgP_ref, ↓kArgP_fz, ↓kArgP_rfz, ↓wc_run, ↓kRun_rt, ↓kRun_nx, ↓kRunR_fz, ↓kRunR_own, ↓wex_nil, ↓wex_fz, ↓wex_ref, ↓wex_rfz, ↓kEx_eq, ↓we_rev, ↓kRev0_eq, ↓kRev_l, ↓wk_eq, ↓kOwnK_own, ↓kOwnK_ref, ↓ws_setKey, ↓kSK1_eq, ↓kSK2_eq, ↓kSK3_eq, ↓kSK4_s, ↓kSK4_i, ↓kSK5_eq, ↓kSK6_eq, ↓we_get1, ↓kG1_eq, ↓kG2_d, ↓kG3_eq, ↓kG4_d, ↓kG5_s, ↓kG5_i, ↓we_get2, ↓kH1_eq, ↓kH2_d, ↓kH3_eq, ↓kH3b_eq, ↓kH4_d, ↓kH5_s, ↓kH5_i, ↓kWh_t, ↓kWh_f, ↓ws_while, ↓we_ext, ↓kEx0_eq, ↓kEx1_eq, ↓kEx3_eq, ↓kJ_nx, ↓kJ_rt, ↓kJ_bk, ↓kJ_ct, ↓kIs_eq, ↓kIsE_eq, wp_some, backSVs_nil, backSVs_cons, lock_unb, lock_fz, lock_own, plain_fz, plain_own, enter_fz, enter_own, put_ownE, put_refE, back_oo, back_of, back_ro, back_rf, back_fz, back_rfz, freeze_own, freeze_ref, freeze_fz, backAt_eq, findSV_nil, findSV_nil2, findSV_plc, findSV_fz, findSV_own, apart_nil, apart_fz, apart_own, apart_plc, placed_nil, placed_fz, placed_own, placed_plc, wipeE_nil, wipeE_cons, backE_nil, backE_cons, unlocked_nil, unlocked_cons, List.set_cons_zero, List.set_cons_succ, List.getD_cons_zero, List.getD_cons_succ, List.getElem?_cons_zero, List.getElem?_cons_succ, List.map_cons, List.map_nil, List.cons_append, List.nil_append, List.replicate_succ, List.replicate_zero, List.length_cons, List.length_nil, List.all_cons, List.all_nil, Nat.reduceSub, Nat.reduceAdd, Nat.reduceLeDiff, Nat.reduceEqDiff, Nat.reduceLT, Nat.zero_add, Bool.not_true, Bool.not_false, Bool.and_true, Bool.true_and, Bool.and_self, and_true, true_and, if_true, reduceIte, reduceCtorEq, decide_true, decide_false, Bool.false_eq_true, Bool.or_false, Bool.or_true, Bool.false_or, Bool.true_or, Bool.and_false, Bool.false_and, Nat.le_refl, lineN, Nat.one_ne_zero, Nat.zero_ne_one, addD_i, subD_i, negD_i, cmpI_i, eqD_i, neD_i, eqD_s, neD_s, eqD_b, neD_b, isD_n, isD_b, isNotD_n, isNotD_b, isBool_b, isNone_n, isNone_b, isNone_i, isNone_s, isNone_l, isNone_t, isNone_d, isi_eq, lenD_l, lenD_t, absD_n, maxD_m, minD_m, intD_i, listD_l, listD_t, tupleD_l, tupleD_t, isiB, mulSD_i, divD_i, modD_i, powD_i, ixD_l, ixD_t, ixD_s, slD_l, slD_t, slD_s, lenD_s, addD_s, addD_l, addD_t, strD_i, wp_bind, wp_guard, atI_0, atI_1, atI_2, atI_3, atI_4, ixN_0, ixN_1, ixN_2, Int.reduceNeg, Int.reduceSub, Int.reduceAdd, listD_s, tupleD_s, mulSD_s, small64_eq, decide_eq_true_eq, or_true, true_or, Int.reducePow, Int.reduceToNat, Int.reduceLE, Int.reduceLT, Int.reduceMul, Int.reduceEq, Int.zero_add, Nat.reducePow, Nat.reduceMul, Int.reduceAbs, rangeD_1, rangeD_2, rangeD_3, sortedD_l, maxLD_l, minLD_l, sumLD_l, reprD_1, ixD_ds, ixD_di, inD_ds, inD_di, notInD_ds, notInD_di, dictPD_l, intsOf_nil, intsOf_cons, Option.bind_some, List.max?_cons', List.min?_cons', List.foldl_cons, List.foldl_nil, kDictb_s, kDictb_int, Int.cast_ofNat_Int, upperD_eq, cutS_S, S_cps, S_len', SX.S_len, SX.S_cat, S_mk, repS_S, inD_S, notInD_S, signD_S, ixD_S, cutG_none, cutG_but, cutD_G, lit_0, lit_1, lit_2, lit_3, lit_4])
  exact k _ _ _ _ h1 h2
theorem box_ok {ns : List Int} {p c : Int} {P : List SV → RV → Prop} (k : ∀ x y u v p' c' : Int, nrI x → nrI y → nrI u → nrI v → x ≤ u → y ≤ v → P [.own (penD ns p' c')] (.fz (.tuple [.tuple [.int x, .int y], .tuple [.int u, .int v]]))) :
    WC c_law_box [.own (penD ns p c)] P := by
  unfold c_law_box b_law_box
  (try simp only [↓wx_0, ↓wx_s, ↓wv_fz, ↓wv_own, ↓wv_plc, ↓kView_fz, ↓kView_own, ↓kView_ref, ↓kView_rfz, ↓wf_fz, ↓wf_own, ↓wf_plc, ↓kFix_fz, ↓kFix_rfz, ↓kFix_own, ↓kFix_ref, ↓we_lit, ↓we_slot, ↓kSlot_fz, ↓kSlot_rfz, ↓kSlot_own, ↓kSlot_ref, ↓wa_nil, ↓wa_cons, ↓kCons1_eq, ↓kCons2_eq, ↓wvs_nil, ↓wvs_cons, ↓kVs1_eq, ↓kVs2_eq, ↓we_op2, ↓kOp2a_eq, ↓kOp2b_eq, ↓kOp2c_eq, ↓kOp2d_eq, ↓we_op1, ↓kOp1a_eq, ↓kOp1b_eq, ↓we_call, ↓kCalla_eq, ↓kCallb_eq, ↓wt_asT, ↓kAsT_eq, ↓wt_and, ↓wt_or, ↓wt_not, ↓kAnd_t, ↓kAnd_f, ↓kOr_t, ↓kOr_f, ↓kNot_eq, ↓we_eT, ↓kET_eq, ↓we_if, ↓kIfE_t, ↓kIfE_f, ↓we_chain, ↓kCh1_eq, ↓kCh2_eq, ↓kCh3_eq, ↓kCh4_eq, ↓kCh5_t, ↓kCh5_f, ↓wfs_nil, ↓wfs_cons, ↓kFs1_eq, ↓kFs2_eq, ↓we_tup, ↓we_lst, ↓kTup_eq, ↓kTupb_eq, ↓kLst_eq, ↓kLstb_eq, ↓we_dict, ↓kDict_eq, ↓kDictb_nil, ↓we_dictT, ↓kDictT_eq, ↓kDictTb_2, ↓wa_pairs0, ↓wa_pairs, ↓wo_no, ↓wo_sm, ↓kSm_eq, ↓we_sl, ↓kSl1_eq, ↓kSl2_eq, ↓kSl3_eq, ↓kSl4_eq, ↓we_m0, ↓we_m1, ↓kM0_eq, ↓kM1_eq, ↓kM1b_eq, ↓kM1c_eq, ↓wg_slot, ↓kGSlot_eq, ↓wgs_nil, ↓wgs_cons, ↓kGs_eq, ↓wg_unp, ↓wi_any, ↓kIAnyA_eq, ↓kIAny_l, ↓kIAny_t, ↓kIAny_s, ↓wi_r1, ↓wi_r2, ↓kR1_eq, ↓kR2_eq, ↓kR2a_eq, ↓we_lc, ↓kLc_eq, ↓kLcE_eq, ↓kLcF_eq, ↓kLcR_eq, ↓kLcT_eq, ↓kLcB_t, ↓kLcB_f, ↓wt_yes, ↓ws_skip, ↓ws_seq, ↓kSeq_nx, ↓kSeq_rt, ↓kSeq_bk, ↓kSeq_ct, ↓ws_expr, ↓kExpr_eq, ↓ws_set, ↓kSet_eq, ↓kSetL_eq, ↓kSetV_fz, ↓kSetV_own, ↓kSetV_plc, ↓kSetP_own, ↓kSetP_ref, ↓kSetP_fz, ↓ws_asg, ↓kAsg_fz, ↓kAsgB_eq, ↓ws_ret, ↓kRet_fz, ↓kRet_own, ↓kRet_plc, ↓kRetP_own, ↓kRetP_ref, ↓ws_retN, ↓ws_if, ↓kIf_t, ↓kIf_f, ↓ws_brk, ↓ws_cnt, ↓ws_for, ↓kFor_eq, ↓kLoop_nx, ↓kLoop_ct, ↓kLoop_bk, ↓kLoop_rt, ↓kBody_eq, ↓wl_eq, ↓kOwnL_own, ↓kOwnL_ref, ↓ws_setIx, ↓kSI1_eq, ↓kSI2_eq, ↓kSI3_eq, ↓kSI4_eq, ↓kSI5_eq, ↓we_app, ↓kAp0_eq, ↓kAp1_eq, ↓kAp2_eq, ↓kAp3_eq, ↓we_user, ↓kUsr_eq, ↓kUsr1_eq, ↓kUsr2_eq, ↓kUsr3_fz, ↓kUsr3_own, ↓warg_nil, ↓warg_fz, ↓warg_own, ↓warg_plc, ↓kArg1_eq, ↓kArg2_eq, ↓kArgP_own, ↓kArgP_ref, ↓kArgP_fz, ↓kArgP_rfz, ↓wc_run, ↓kRun_rt, ↓kRun_nx, ↓kRunR_fz, ↓kRunR_own, ↓wex_nil, ↓wex_fz, ↓wex_ref, ↓wex_rfz, ↓kEx_eq, ↓we_rev, ↓kRev0_eq, ↓kRev_l, ↓wk_eq, ↓kOwnK_own, ↓kOwnK_ref, ↓ws_setKey, ↓kSK1_eq, ↓kSK2_eq, ↓kSK3_eq, ↓kSK4_s, ↓kSK4_i, ↓kSK5_eq, ↓kSK6_eq, ↓we_get1, ↓kG1_eq, ↓kG2_d, ↓kG3_eq, ↓kG4_d, ↓kG5_s, ↓kG5_i, ↓we_get2, ↓kH1_eq, ↓kH2_d, ↓kH3_eq, ↓kH3b_eq, ↓kH4_d, ↓kH5_s, ↓kH5_i, ↓kWh_t, ↓kWh_f, ↓ws_while, ↓we_ext, ↓kEx0_eq, ↓kEx1_eq, ↓kEx3_eq, ↓kJ_nx, ↓kJ_rt, ↓kJ_bk, ↓kJ_ct, ↓kIs_eq, ↓kIsE_eq, wp_some, backSVs_nil, backSVs_cons, lock_unb, lock_fz, lock_own, plain_fz, plain_own, enter_fz, enter_own, put_ownE, put_refE, back_oo, back_of, back_ro, back_rf, back_fz, back_rfz, freeze_own, freeze_ref, freeze_fz, backAt_eq, findSV_nil, findSV_nil2, findSV_plc, findSV_fz, findSV_own, apart_nil, apart_fz, apart_own, apart_plc, placed_nil, placed_fz, placed_own, placed_plc, wipeE_nil, wipeE_cons, backE_nil, backE_cons, unlocked_nil, unlocked_cons, List.set_cons_zero, List.set_cons_succ, List.getD_cons_zero, List.getD_cons_succ, List.getElem?_cons_zero, List.getElem?_cons_succ, List.map_cons, List.map_nil, List.cons_append, List.nil_append, List.replicate_succ, List.replicate_zero, List.length_cons, List.length_nil, List.all_cons, List.all_nil, Nat.reduceSub, Nat.reduceAdd, Nat.reduceLeDiff, Nat.reduceEqDiff, Nat.reduceLT, Nat.zero_add, Bool.not_true, Bool.not_false, Bool.and_true, Bool.true_and, Bool.and_self, and_true, true_and, if_true, reduceIte, reduceCtorEq, decide_true, decide_false, Bool.false_eq_true, Bool.or_false, Bool.or_true, Bool.false_or, Bool.true_or, Bool.and_false, Bool.false_and, Nat.le_refl, lineN, Nat.one_ne_zero, Nat.zero_ne_one, addD_i, subD_i, negD_i, cmpI_i, eqD_i, neD_i, eqD_s, neD_s, eqD_b, neD_b, isD_n, isD_b, isNotD_n, isNotD_b, isBool_b, isNone_n, isNone_b, isNone_i, isNone_s, isNone_l, isNone_t, isNone_d, isi_eq, lenD_l, lenD_t, absD_n, maxD_m, minD_m, intD_i, listD_l, listD_t, tupleD_l, tupleD_t, isiB, mulSD_i, divD_i, modD_i, powD_i, ixD_l, ixD_t, ixD_s, slD_l, slD_t, slD_s, lenD_s, addD_s, addD_l, addD_t, strD_i, wp_bind, wp_guard, atI_0, atI_1, atI_2, atI_3, atI_4, ixN_0, ixN_1, ixN_2, Int.reduceNeg, Int.reduceSub, Int.reduceAdd, listD_s, tupleD_s, mulSD_s, small64_eq, decide_eq_true_eq, or_true, true_or, Int.reducePow, Int.reduceToNat, Int.reduceLE, Int.reduceLT, Int.reduceMul, Int.reduceEq, Int.zero_add, Nat.reducePow, Nat.reduceMul, Int.reduceAbs, rangeD_1, rangeD_2, rangeD_3, sortedD_l, maxLD_l, minLD_l, sumLD_l, reprD_1, ixD_ds, ixD_di, inD_ds, inD_di, notInD_ds, notInD_di, dictPD_l, intsOf_nil, intsOf_cons, Option.bind_some, List.max?_cons', List.min?_cons', List.foldl_cons, List.foldl_nil, kDictb_s, kDictb_int, Int.cast_ofNat_Int, upperD_eq, cutS_S, S_cps, S_len', SX.S_len, SX.S_cat, S_mk, repS_S, inD_S, notInD_S, signD_S, ixD_S, cutG_none, cutG_but, cutD_G, lit_0, lit_1, lit_2, lit_3, lit_4])
  refine spot_ok fun x y p1 c1 h1 h2 => ?_
  (try simp only [↓wx_0, ↓wx_s, ↓wv_fz, ↓wv_own, ↓wv_plc, ↓kView_fz, ↓kView_own, ↓kView_ref, ↓kView_rfz, ↓wf_fz, ↓wf_own, ↓wf_plc, ↓kFix_fz, ↓kFix_rfz, ↓kFix_own, ↓kFix_ref, ↓we_lit, ↓we_slot, ↓kSlot_fz, ↓kSlot_rfz, ↓kSlot_own, ↓kSlot_ref, ↓wa_nil, ↓wa_cons, ↓kCons1_eq, ↓kCons2_eq, ↓wvs_nil, ↓wvs_cons, ↓kVs1_eq, ↓kVs2_eq, ↓we_op2, ↓kOp2a_eq, ↓kOp2b_eq, ↓kOp2c_eq, ↓kOp2d_eq, ↓we_op1, ↓kOp1a_eq, ↓kOp1b_eq, ↓we_call, ↓kCalla_eq, ↓kCallb_eq, ↓wt_asT, ↓kAsT_eq, ↓wt_and, ↓wt_or, ↓wt_not, ↓kAnd_t, ↓kAnd_f, ↓kOr_t, ↓kOr_f, ↓kNot_eq, ↓we_eT, ↓kET_eq, ↓we_if, ↓kIfE_t, ↓kIfE_f, ↓we_chain, ↓kCh1_eq, ↓kCh2_eq, ↓kCh3_eq, ↓kCh4_eq, ↓kCh5_t, ↓kCh5_f, ↓wfs_nil, ↓wfs_cons, ↓kFs1_eq, ↓kFs2_eq, ↓we_tup, ↓we_lst, ↓kTup_eq, ↓kTupb_eq, ↓kLst_eq, ↓kLstb_eq, ↓we_dict, ↓kDict_eq, ↓kDictb_nil, ↓we_dictT, ↓kDictT_eq, ↓kDictTb_2, ↓wa_pairs0, ↓wa_pairs, ↓wo_no, ↓wo_sm, ↓kSm_eq, ↓we_sl, ↓kSl1_eq, ↓kSl2_eq, ↓kSl3_eq, ↓kSl4_eq, ↓we_m0, ↓we_m1, ↓kM0_eq, ↓kM1_eq, ↓kM1b_eq, ↓kM1c_eq, ↓wg_slot, ↓kGSlot_eq, ↓wgs_nil, ↓wgs_cons, ↓kGs_eq, ↓wg_unp, ↓wi_any, ↓kIAnyA_eq, ↓kIAny_l, ↓kIAny_t, ↓kIAny_s, ↓wi_r1, ↓wi_r2, ↓kR1_eq, ↓kR2_eq, ↓kR2a_eq, ↓we_lc, ↓kLc_eq, ↓kLcE_eq, ↓kLcF_eq, ↓kLcR_eq, ↓kLcT_eq, ↓kLcB_t, ↓kLcB_f, ↓wt_yes, ↓ws_skip, ↓ws_seq, ↓kSeq_nx, ↓kSeq_rt, ↓kSeq_bk, ↓kSeq_ct, ↓ws_expr, ↓kExpr_eq, ↓ws_set, ↓kSet_eq, ↓kSetL_eq, ↓kSetV_fz, ↓kSetV_own, ↓kSetV_plc, ↓kSetP_own, ↓kSetP_ref, ↓kSetP_fz, ↓ws_asg, ↓kAsg_fz, ↓kAsgB_eq, ↓ws_ret, ↓kRet_fz, ↓kRet_own, ↓kRet_plc, ↓kRetP_own, ↓kRetP_ref, ↓ws_retN, ↓ws_if, ↓kIf_t, ↓kIf_f, ↓ws_brk, ↓ws_cnt, ↓ws_for, ↓kFor_eq, ↓kLoop_nx, ↓kLoop_ct, ↓kLoop_bk, ↓kLoop_rt, ↓kBody_eq, ↓wl_eq, ↓kOwnL_own, ↓kOwnL_ref, ↓ws_setIx, ↓kSI1_eq, ↓kSI2_eq, ↓kSI3_eq, ↓kSI4_eq, ↓kSI5_eq, ↓we_app, ↓kAp0_eq, ↓kAp1_eq, ↓kAp2_eq, ↓kAp3_eq, ↓we_user, ↓kUsr_eq, ↓kUsr1_eq, ↓kUsr2_eq, ↓kUsr3_fz, ↓kUsr3_own, ↓warg_nil, ↓warg_fz, ↓warg_own, ↓warg_plc, ↓kArg1_eq, ↓kArg2_eq, ↓kArgP_own, ↓kArgP_ref, ↓kArgP_fz, ↓kArgP_rfz, ↓wc_run, ↓kRun_rt, ↓kRun_nx, ↓kRunR_fz, ↓kRunR_own, ↓wex_nil, ↓wex_fz, ↓wex_ref, ↓wex_rfz, ↓kEx_eq, ↓we_rev, ↓kRev0_eq, ↓kRev_l, ↓wk_eq, ↓kOwnK_own, ↓kOwnK_ref, ↓ws_setKey, ↓kSK1_eq, ↓kSK2_eq, ↓kSK3_eq, ↓kSK4_s, ↓kSK4_i, ↓kSK5_eq, ↓kSK6_eq, ↓we_get1, ↓kG1_eq, ↓kG2_d, ↓kG3_eq, ↓kG4_d, ↓kG5_s, ↓kG5_i, ↓we_get2, ↓kH1_eq, ↓kH2_d, ↓kH3_eq, ↓kH3b_eq, ↓kH4_d, ↓kH5_s, ↓kH5_i, ↓kWh_t, ↓kWh_f, ↓ws_while, ↓we_ext, ↓kEx0_eq, ↓kEx1_eq, ↓kEx3_eq, ↓kJ_nx, ↓kJ_rt, ↓kJ_bk, ↓kJ_ct, ↓kIs_eq, ↓kIsE_eq, wp_some, backSVs_nil, backSVs_cons, lock_unb, lock_fz, lock_own, plain_fz, plain_own, enter_fz, enter_own, put_ownE, put_refE, back_oo, back_of, back_ro, back_rf, back_fz, back_rfz, freeze_own, freeze_ref, freeze_fz, backAt_eq, findSV_nil, findSV_nil2, findSV_plc, findSV_fz, findSV_own, apart_nil, apart_fz, apart_own, apart_plc, placed_nil, placed_fz, placed_own, placed_plc, wipeE_nil, wipeE_cons, backE_nil, backE_cons, unlocked_nil, unlocked_cons, List.set_cons_zero, List.set_cons_succ, List.getD_cons_zero, List.getD_cons_succ, List.getElem?_cons_zero, List.getElem?_cons_succ, List.map_cons, List.map_nil, List.cons_append, List.nil_append, List.replicate_succ, List.replicate_zero, List.length_cons, List.length_nil, List.all_cons, List.all_nil, Nat.reduceSub, Nat.reduceAdd, Nat.reduceLeDiff, Nat.reduceEqDiff, Nat.reduceLT, Nat.zero_add, Bool.not_true, Bool.not_false, Bool.and_true, Bool.true_and, Bool.and_self, and_true, true_and, if_true, reduceIte, reduceCtorEq, decide_true, decide_false, Bool.false_eq_true, Bool.or_false, Bool.or_true, Bool.false_or, Bool.true_or, Bool.and_false, Bool.false_and, Nat.le_refl, lineN, Nat.one_ne_zero, Nat.zero_ne_one, addD_i, subD_i, negD_i, cmpI_i, eqD_i, neD_i, eqD_s, neD_s, eqD_b, neD_b, isD_n, isD_b, isNotD_n, isNotD_b, isBool_b, isNone_n, isNone_b, isNone_i, isNone_s, isNone_l, isNone_t, isNone_d, isi_eq, lenD_l, lenD_t, absD_n, maxD_m, minD_m, intD_i, listD_l, listD_t, tupleD_l, tupleD_t, isiB, mulSD_i, divD_i, modD_i, powD_i, ixD_l, ixD_t, ixD_s, slD_l, slD_t, slD_s, lenD_s, addD_s, addD_l, addD_t, strD_i, wp_bind, wp_guard, atI_0, atI_1, atI_2, atI_3, atI_4, ixN_0, ixN_1, ixN_2, Int.reduceNeg, Int.reduceSub, Int.reduceAdd, listD_s, tupleD_s, mulSD_s, small64_eq, decide_eq_true_eq, or_true, true_or, Int.reducePow, Int.reduceToNat, Int.reduceLE, Int.reduceLT, Int.reduceMul, Int.reduceEq, Int.zero_add, Nat.reducePow, Nat.reduceMul, Int.reduceAbs, rangeD_1, rangeD_2, rangeD_3, sortedD_l, maxLD_l, minLD_l, sumLD_l, reprD_1, ixD_ds, ixD_di, inD_ds, inD_di, notInD_ds, notInD_di, dictPD_l, intsOf_nil, intsOf_cons, Option.bind_some, List.max?_cons', List.min?_cons', List.foldl_cons, List.foldl_nil, kDictb_s, kDictb_int, Int.cast_ofNat_Int, upperD_eq, cutS_S, S_cps, S_len', SX.S_len, SX.S_cat, S_mk, repS_S, inD_S, notInD_S, signD_S, ixD_S, cutG_none, cutG_but, cutD_G, lit_0, lit_1, lit_2, lit_3, lit_4])
  refine spot_ok fun u v p2 c2 h3 h4 => ?_
  (try simp only [↓wx_0, ↓wx_s, ↓wv_fz, ↓wv_own, ↓wv_plc, ↓kView_fz, ↓kView_own, ↓kView_ref, ↓kView_rfz, ↓wf_fz, ↓wf_own, ↓wf_plc, ↓kFix_fz, ↓kFix_rfz, ↓kFix_own, ↓kFix_ref, ↓we_lit, ↓we_slot, ↓kSlot_fz, ↓kSlot_rfz, ↓kSlot_own, ↓kSlot_ref, ↓wa_nil, ↓wa_cons, ↓kCons1_eq, ↓kCons2_eq, ↓wvs_nil, ↓wvs_cons, ↓kVs1_eq, ↓kVs2_eq, ↓we_op2, ↓kOp2a_eq, ↓kOp2b_eq, ↓kOp2c_eq, ↓kOp2d_eq, ↓we_op1, ↓kOp1a_eq, ↓kOp1b_eq, ↓we_call, ↓kCalla_eq, ↓kCallb_eq, ↓wt_asT, ↓kAsT_eq, ↓wt_and, ↓wt_or, ↓wt_not, ↓kAnd_t, ↓kAnd_f, ↓kOr_t, ↓kOr_f, ↓kNot_eq, ↓we_eT, ↓kET_eq, ↓we_if, ↓kIfE_t, ↓kIfE_f, ↓we_chain, ↓kCh1_eq, ↓kCh2_eq, ↓kCh3_eq, ↓kCh4_eq, ↓kCh5_t, ↓kCh5_f, ↓wfs_nil, ↓wfs_cons, ↓kFs1_eq, ↓kFs2_eq, ↓we_tup, ↓we_lst, ↓kTup_eq, ↓kTupb_eq, ↓kLst_eq, ↓kLstb_eq, ↓we_dict, ↓kDict_eq, ↓kDictb_nil, ↓we_dictT, ↓kDictT_eq, ↓kDictTb_2, ↓wa_pairs0, ↓wa_pairs, ↓wo_no, ↓wo_sm, ↓kSm_eq, ↓we_sl, ↓kSl1_eq, ↓kSl2_eq, ↓kSl3_eq, ↓kSl4_eq, ↓we_m0, ↓we_m1, ↓kM0_eq, ↓kM1_eq, ↓kM1b_eq, ↓kM1c_eq, ↓wg_slot, ↓kGSlot_eq, ↓wgs_nil, ↓wgs_cons, ↓kGs_eq, ↓wg_unp, ↓wi_any, ↓kIAnyA_eq, ↓kIAny_l, ↓kIAny_t, ↓kIAny_s, ↓wi_r1, ↓wi_r2, ↓kR1_eq, ↓kR2_eq, ↓kR2a_eq, ↓we_lc, ↓kLc_eq, ↓kLcE_eq, ↓kLcF_eq, ↓kLcR_eq, ↓kLcT_eq, ↓kLcB_t, ↓kLcB_f, ↓wt_yes, ↓ws_skip, ↓ws_seq, ↓kSeq_nx, ↓kSeq_rt, ↓kSeq_bk, ↓kSeq_ct, ↓ws_expr, ↓kExpr_eq, ↓ws_set, ↓kSet_eq, ↓kSetL_eq, ↓kSetV_fz, ↓kSetV_own, ↓kSetV_plc, ↓kSetP_own, ↓kSetP_ref, ↓kSetP_fz, ↓ws_asg, ↓kAsg_fz, ↓kAsgB_eq, ↓ws_ret, ↓kRet_fz, ↓kRet_own, ↓kRet_plc, ↓kRetP_own, ↓kRetP_ref, ↓ws_retN, ↓ws_if, ↓kIf_t, ↓kIf_f, ↓ws_brk, ↓ws_cnt, ↓ws_for, ↓kFor_eq, ↓kLoop_nx, ↓kLoop_ct, ↓kLoop_bk, ↓kLoop_rt, ↓kBody_eq, ↓wl_eq, ↓kOwnL_own, ↓kOwnL_ref, ↓ws_setIx, ↓kSI1_eq, ↓kSI2_eq, ↓kSI3_eq, ↓kSI4_eq, ↓kSI5_eq, ↓we_app, ↓kAp0_eq, ↓kAp1_eq, ↓kAp2_eq, ↓kAp3_eq, ↓we_user, ↓kUsr_eq, ↓kUsr1_eq, ↓kUsr2_eq, ↓kUsr3_fz, ↓kUsr3_own, ↓warg_nil, ↓warg_fz, ↓warg_own, ↓warg_plc, ↓kArg1_eq, ↓kArg2_eq, ↓kArgP_own, ↓kArgP_ref, ↓kArgP_fz, ↓kArgP_rfz, ↓wc_run, ↓kRun_rt, ↓kRun_nx, ↓kRunR_fz, ↓kRunR_own, ↓wex_nil, ↓wex_fz, ↓wex_ref, ↓wex_rfz, ↓kEx_eq, ↓we_rev, ↓kRev0_eq, ↓kRev_l, ↓wk_eq, ↓kOwnK_own, ↓kOwnK_ref, ↓ws_setKey, ↓kSK1_eq, ↓kSK2_eq, ↓kSK3_eq, ↓kSK4_s, ↓kSK4_i, ↓kSK5_eq, ↓kSK6_eq, ↓we_get1, ↓kG1_eq, ↓kG2_d, ↓kG3_eq, ↓kG4_d, ↓kG5_s, ↓kG5_i, ↓we_get2, ↓kH1_eq, ↓kH2_d, ↓kH3_eq, ↓kH3b_eq, ↓kH4_d, ↓kH5_s, ↓kH5_i, ↓kWh_t, ↓kWh_f, ↓ws_while, ↓we_ext, ↓kEx0_eq, ↓kEx1_eq, ↓kEx3_eq, ↓kJ_nx, ↓kJ_rt, ↓kJ_bk, ↓kJ_ct, ↓kIs_eq, ↓kIsE_eq, wp_some, backSVs_nil, backSVs_cons, lock_unb, lock_fz, lock_own, plain_fz, plain_own, enter_fz, enter_own, put_ownE, put_refE, back_oo, back_of, back_ro, back_rf, back_fz, back_rfz, freeze_own, freeze_ref, freeze_fz, backAt_eq, findSV_nil, findSV_nil2, findSV_plc, findSV_fz, findSV_own, apart_nil, apart_fz, apart_own, apart_plc, placed_nil, placed_fz, placed_own, placed_plc, wipeE_nil, wipeE_cons, backE_nil, backE_cons, unlocked_nil, unlocked_cons, List.set_cons_zero, List.set_cons_succ, List.getD_cons_zero, List.getD_cons_succ, List.getElem?_cons_zero, List.getElem?_cons_succ, List.map_cons, List.map_nil, List.cons_append, List.nil_append, List.replicate_succ, List.replicate_zero, List.length_cons, List.length_nil, List.all_cons, List.all_nil, Nat.reduceSub, Nat.reduceAdd, Nat.reduceLeDiff, Nat.reduceEqDiff, Nat.reduceLT, Nat.zero_add, Bool.not_true, Bool.not_false, Bool.and_true, Bool.true_and, Bool.and_self, and_true, true_and, if_true, reduceIte, reduceCtorEq, decide_true, decide_false, Bool.false_eq_true, Bool.or_false, Bool.or_true, Bool.false_or, Bool.true_or, Bool.and_false, Bool.false_and, Nat.le_refl, lineN, Nat.one_ne_zero, Nat.zero_ne_one, addD_i, subD_i, negD_i, cmpI_i, eqD_i, neD_i, eqD_s, neD_s, eqD_b, neD_b, isD_n, isD_b, isNotD_n, isNotD_b, isBool_b, isNone_n, isNone_b, isNone_i, isNone_s, isNone_l, isNone_t, isNone_d, isi_eq, lenD_l, lenD_t, absD_n, maxD_m, minD_m, intD_i, listD_l, listD_t, tupleD_l, tupleD_t, isiB, mulSD_i, divD_i, modD_i, powD_i, ixD_l, ixD_t, ixD_s, slD_l, slD_t, slD_s, lenD_s, addD_s, addD_l, addD_t, strD_i, wp_bind, wp_guard, atI_0, atI_1, atI_2, atI_3, atI_4, ixN_0, ixN_1, ixN_2, Int.reduceNeg, Int.reduceSub, Int.reduceAdd, listD_s, tupleD_s, mulSD_s, small64_eq, decide_eq_true_eq, or_true, true_or, Int.reducePow, Int.reduceToNat, Int.reduceLE, Int.reduceLT, Int.reduceMul, Int.reduceEq, Int.zero_add, Nat.reducePow, Nat.reduceMul, Int.reduceAbs, rangeD_1, rangeD_2, rangeD_3, sortedD_l, maxLD_l, minLD_l, sumLD_l, reprD_1, ixD_ds, ixD_di, inD_ds, inD_di, notInD_ds, notInD_di, dictPD_l, intsOf_nil, intsOf_cons, Option.bind_some, List.max?_cons', List.min?_cons', List.foldl_cons, List.foldl_nil, kDictb_s, kDictb_int, Int.cast_ofNat_Int, upperD_eq, cutS_S, S_cps, S_len', SX.S_len, SX.S_cat, S_mk, repS_S, inD_S, notInD_S, signD_S, ixD_S, cutG_none, cutG_but, cutD_G, lit_0, lit_1, lit_2, lit_3, lit_4])
  refine take_ok (by decide) (by decide) fun r p3 c3 a b => ?_
  (try simp only [↓wx_0, ↓wx_s, ↓wv_fz, ↓wv_own, ↓wv_plc, ↓kView_fz, ↓kView_own, ↓kView_ref, ↓kView_rfz, ↓wf_fz, ↓wf_own, ↓wf_plc, ↓kFix_fz, ↓kFix_rfz, ↓kFix_own, ↓kFix_ref, ↓we_lit, ↓we_slot, ↓kSlot_fz, ↓kSlot_rfz, ↓kSlot_own, ↓kSlot_ref, ↓wa_nil, ↓wa_cons, ↓kCons1_eq, ↓kCons2_eq, ↓wvs_nil, ↓wvs_cons, ↓kVs1_eq, ↓kVs2_eq, ↓we_op2, ↓kOp2a_eq, ↓kOp2b_eq, ↓kOp2c_eq, ↓kOp2d_eq, ↓we_op1, ↓kOp1a_eq, ↓kOp1b_eq, ↓we_call, ↓kCalla_eq, ↓kCallb_eq, ↓wt_asT, ↓kAsT_eq, ↓wt_and, ↓wt_or, ↓wt_not, ↓kAnd_t, ↓kAnd_f, ↓kOr_t, ↓kOr_f, ↓kNot_eq, ↓we_eT, ↓kET_eq, ↓we_if, ↓kIfE_t, ↓kIfE_f, ↓we_chain, ↓kCh1_eq, ↓kCh2_eq, ↓kCh3_eq, ↓kCh4_eq, ↓kCh5_t, ↓kCh5_f, ↓wfs_nil, ↓wfs_cons, ↓kFs1_eq, ↓kFs2_eq, ↓we_tup, ↓we_lst, ↓kTup_eq, ↓kTupb_eq, ↓kLst_eq, ↓kLstb_eq, ↓we_dict, ↓kDict_eq, ↓kDictb_nil, ↓we_dictT, ↓kDictT_eq, ↓kDictTb_2, ↓wa_pairs0, ↓wa_pairs, ↓wo_no, ↓wo_sm, ↓kSm_eq, ↓we_sl, ↓kSl1_eq, ↓kSl2_eq, ↓kSl3_eq, ↓kSl4_eq, ↓we_m0, ↓we_m1, ↓kM0_eq, ↓kM1_eq, ↓kM1b_eq, ↓kM1c_eq, ↓wg_slot, ↓kGSlot_eq, ↓wgs_nil, ↓wgs_cons, ↓kGs_eq, ↓wg_unp, ↓wi_any, ↓kIAnyA_eq, ↓kIAny_l, ↓kIAny_t, ↓kIAny_s, ↓wi_r1, ↓wi_r2, ↓kR1_eq, ↓kR2_eq, ↓kR2a_eq, ↓we_lc, ↓kLc_eq, ↓kLcE_eq, ↓kLcF_eq, ↓kLcR_eq, ↓kLcT_eq, ↓kLcB_t, ↓kLcB_f, ↓wt_yes, ↓ws_skip, ↓ws_seq, ↓kSeq_nx, ↓kSeq_rt, ↓kSeq_bk, ↓kSeq_ct, ↓ws_expr, ↓kExpr_eq, ↓ws_set, ↓kSet_eq, ↓kSetL_eq, ↓kSetV_fz, ↓kSetV_own, ↓kSetV_plc, ↓kSetP_own, ↓kSetP_ref, ↓kSetP_fz, ↓ws_asg, ↓kAsg_fz, ↓kAsgB_eq, ↓ws_ret, ↓kRet_fz, ↓kRet_own, ↓kRet_plc, ↓kRetP_own, ↓kRetP_ref, ↓ws_retN, ↓ws_if, ↓kIf_t, ↓kIf_f, ↓ws_brk, ↓ws_cnt, ↓ws_for, ↓kFor_eq, ↓kLoop_nx, ↓kLoop_ct, ↓kLoop_bk, ↓kLoop_rt, ↓kBody_eq, ↓wl_eq, ↓kOwnL_own, ↓kOwnL_ref, ↓ws_setIx, ↓kSI1_eq, ↓kSI2_eq, ↓kSI3_eq, ↓kSI4_eq, ↓kSI5_eq, ↓we_app, ↓kAp0_eq, ↓kAp1_eq, ↓kAp2_eq, ↓kAp3_eq, ↓we_user, ↓kUsr_eq, ↓kUsr1_eq, ↓kUsr2_eq, ↓kUsr3_fz, ↓kUsr3_own, ↓warg_nil, ↓warg_fz, ↓warg_own, ↓warg_plc, ↓kArg1_eq, ↓kArg2_eq, ↓kArgP_own, ↓kArgP_ref, ↓kArgP_fz, ↓kArgP_rfz, ↓wc_run, ↓kRun_rt, ↓kRun_nx, ↓kRunR_fz, ↓kRunR_own, ↓wex_nil, ↓wex_fz, ↓wex_ref, ↓wex_rfz, ↓kEx_eq, ↓we_rev, ↓kRev0_eq, ↓kRev_l, ↓wk_eq, ↓kOwnK_own, ↓kOwnK_ref, ↓ws_setKey, ↓kSK1_eq, ↓kSK2_eq, ↓kSK3_eq, ↓kSK4_s, ↓kSK4_i, ↓kSK5_eq, ↓kSK6_eq, ↓we_get1, ↓kG1_eq, ↓kG2_d, ↓kG3_eq, ↓kG4_d, ↓kG5_s, ↓kG5_i, ↓we_get2, ↓kH1_eq, ↓kH2_d, ↓kH3_eq, ↓kH3b_eq, ↓kH4_d, ↓kH5_s, ↓kH5_i, ↓kWh_t, ↓kWh_f, ↓ws_while, ↓we_ext, ↓kEx0_eq, ↓kEx1_eq, ↓kEx3_eq, ↓kJ_nx, ↓kJ_rt, ↓kJ_bk, ↓kJ_ct, ↓kIs_eq, ↓kIsE_eq, wp_some, backSVs_nil, backSVs_cons, lock_unb, lock_fz, lock_own, plain_fz, plain_own, enter_fz, enter_own, put_ownE, put_refE, back_oo, back_of, back_ro, back_rf, back_fz, back_rfz, freeze_own, freeze_ref, freeze_fz, backAt_eq, findSV_nil, findSV_nil2, findSV_plc, findSV_fz, findSV_own, apart_nil, apart_fz, apart_own, apart_plc, placed_nil, placed_fz, placed_own, placed_plc, wipeE_nil, wipeE_cons, backE_nil, backE_cons, unlocked_nil, unlocked_cons, List.set_cons_zero, List.set_cons_succ, List.getD_cons_zero, List.getD_cons_succ, List.getElem?_cons_zero, List.getElem?_cons_succ, List.map_cons, List.map_nil, List.cons_append, List.nil_append, List.replicate_succ, List.replicate_zero, List.length_cons, List.length_nil, List.all_cons, List.all_nil, Nat.reduceSub, Nat.reduceAdd, Nat.reduceLeDiff, Nat.reduceEqDiff, Nat.reduceLT, Nat.zero_add, Bool.not_true, Bool.not_false, Bool.and_true, Bool.true_and, Bool.and_self, and_true, true_and, if_true, reduceIte, reduceCtorEq, decide_true, decide_false, Bool.false_eq_true, Bool.or_false, Bool.or_true, Bool.false_or, Bool.true_or, Bool.and_false, Bool.false_and, Nat.le_refl, lineN, Nat.one_ne_zero, Nat.zero_ne_one, addD_i, subD_i, negD_i, cmpI_i, eqD_i, neD_i, eqD_s, neD_s, eqD_b, neD_b, isD_n, isD_b, isNotD_n, isNotD_b, isBool_b, isNone_n, isNone_b, isNone_i, isNone_s, isNone_l, isNone_t, isNone_d, isi_eq, lenD_l, lenD_t, absD_n, maxD_m, minD_m, intD_i, listD_l, listD_t, tupleD_l, tupleD_t, isiB, mulSD_i, divD_i, modD_i, powD_i, ixD_l, ixD_t, ixD_s, slD_l, slD_t, slD_s, lenD_s, addD_s, addD_l, addD_t, strD_i, wp_bind, wp_guard, atI_0, atI_1, atI_2, atI_3, atI_4, ixN_0, ixN_1, ixN_2, Int.reduceNeg, Int.reduceSub, Int.reduceAdd, listD_s, tupleD_s, mulSD_s, small64_eq, decide_eq_true_eq, or_true, true_or, Int.reducePow, Int.reduceToNat, Int.reduceLE, Int.reduceLT, Int.reduceMul, Int.reduceEq, Int.zero_add, Nat.reducePow, Nat.reduceMul, Int.reduceAbs, rangeD_1, rangeD_2, rangeD_3, sortedD_l, maxLD_l, minLD_l, sumLD_l, reprD_1, ixD_ds, ixD_di, inD_ds, inD_di, notInD_ds, notInD_di, dictPD_l, intsOf_nil, intsOf_cons, Option.bind_some, List.max?_cons', List.min?_cons', List.foldl_cons, List.foldl_nil, kDictb_s, kDictb_int, Int.cast_ofNat_Int, upperD_eq, cutS_S, S_cps, S_len', SX.S_len, SX.S_cat, S_mk, repS_S, inD_S, notInD_S, signD_S, ixD_S, cutG_none, cutG_but, cutD_G, lit_0, lit_1, lit_2, lit_3, lit_4])
  refine wp_at a b fun d hd => ?_
  have hm := List.mem_of_getElem? hd
  simp only [List.mem_cons, List.not_mem_nil, or_false] at hm
  unfold nrI at *
  rcases hm with rfl | rfl
  all_goals ((try simp only [↓wx_0, ↓wx_s, ↓wv_fz, ↓wv_own, ↓wv_plc, ↓kView_fz, ↓kView_own, ↓kView_ref, ↓kView_rfz, ↓wf_fz, ↓wf_own, ↓wf_plc, ↓kFix_fz, ↓kFix_rfz, ↓kFix_own, ↓kFix_ref, ↓we_lit, ↓we_slot, ↓kSlot_fz, ↓kSlot_rfz, ↓kSlot_own, ↓kSlot_ref, ↓wa_nil, ↓wa_cons, ↓kCons1_eq, ↓kCons2_eq, ↓wvs_nil, ↓wvs_cons, ↓kVs1_eq, ↓kVs2_eq, ↓we_op2, ↓kOp2a_eq, ↓kOp2b_eq, ↓kOp2c_eq, ↓kOp2d_eq, ↓we_op1, ↓kOp1a_eq, ↓kOp1b_eq, ↓we_call, ↓kCalla_eq, ↓kCallb_eq, ↓wt_asT, ↓kAsT_eq, ↓wt_and, ↓wt_or, ↓wt_not, ↓kAnd_t, ↓kAnd_f, ↓kOr_t, ↓kOr_f, ↓kNot_eq, ↓we_eT, ↓kET_eq, ↓we_if, ↓kIfE_t, ↓kIfE_f, ↓we_chain, ↓kCh1_eq, ↓kCh2_eq, ↓kCh3_eq, ↓kCh4_eq, ↓kCh5_t, ↓kCh5_f, ↓wfs_nil, ↓wfs_cons, ↓kFs1_eq, ↓kFs2_eq, ↓we_tup, ↓we_lst, ↓kTup_eq, ↓kTupb_eq, ↓kLst_eq, ↓kLstb_eq, ↓we_dict, ↓kDict_eq, ↓kDictb_nil, ↓we_dictT, ↓kDictT_eq, ↓kDictTb_2, ↓wa_pairs0, ↓wa_pairs, ↓wo_no, ↓wo_sm, ↓kSm_eq, ↓we_sl, ↓kSl1_eq, ↓kSl2_eq, ↓kSl3_eq, ↓kSl4_eq, ↓we_m0, ↓we_m1, ↓kM0_eq, ↓kM1_eq, ↓kM1b_eq, ↓kM1c_eq, ↓wg_slot, ↓kGSlot_eq, ↓wgs_nil, ↓wgs_cons, ↓kGs_eq, ↓wg_unp, ↓wi_any, ↓kIAnyA_eq, ↓kIAny_l, ↓kIAny_t, ↓kIAny_s, ↓wi_r1, ↓wi_r2, ↓kR1_eq, ↓kR2_eq, ↓kR2a_eq, ↓we_lc, ↓kLc_eq, ↓kLcE_eq, ↓kLcF_eq, ↓kLcR_eq, ↓kLcT_eq, ↓kLcB_t, ↓kLcB_f, ↓wt_yes, ↓ws_skip, ↓ws_seq, ↓kSeq_nx, ↓kSeq_rt, ↓kSeq_bk, ↓kSeq_ct, ↓ws_expr, ↓kExpr_eq, ↓ws_set, ↓kSet_eq, ↓kSetL_eq, ↓kSetV_fz, ↓kSetV_own, ↓kSetV_plc, ↓kSetP_own, ↓kSetP_ref, ↓kSetP_fz, ↓ws_asg, ↓kAsg_fz, ↓kAsgB_eq, ↓ws_ret, ↓kRet_fz, ↓kRet_own, ↓kRet_plc, ↓kRetP_own, ↓kRetP_ref, ↓ws_retN, ↓ws_if, ↓kIf_t, ↓kIf_f, ↓ws_brk, ↓ws_cnt, ↓ws_for, ↓kFor_eq, ↓kLoop_nx, ↓kLoop_ct, ↓kLoop_bk, ↓kLoop_rt, ↓kBody_eq, ↓wl_eq, ↓kOwnL_own, ↓kOwnL_ref, ↓ws_setIx, ↓kSI1_eq, ↓kSI2_eq, ↓kSI3_eq, ↓kSI4_eq, ↓kSI5_eq, ↓we_app, ↓kAp0_eq, ↓kAp1_eq, ↓kAp2_eq, ↓kAp3_eq, ↓we_user, ↓kUsr_eq, ↓kUsr1_eq, ↓kUsr2_eq, ↓kUsr3_fz, ↓kUsr3_own, ↓warg_nil, ↓warg_fz, ↓warg_own, ↓warg_plc, ↓kArg1_eq, ↓kArg2_eq, ↓kArgP_own, ↓kArgP_ref, ↓kArgP_fz, ↓kArgP_rfz, ↓wc_run, ↓kRun_rt, ↓kRun_nx, ↓kRunR_fz, ↓kRunR_own, ↓wex_nil, ↓wex_fz, ↓wex_ref, ↓wex_rfz, ↓kEx_eq, ↓we_rev, ↓kRev0_eq, ↓kRev_l, ↓wk_eq, ↓kOwnK_own, ↓kOwnK_ref, ↓ws_setKey, ↓kSK1_eq, ↓kSK2_eq, ↓kSK3_eq, ↓kSK4_s, ↓kSK4_i, ↓kSK5_eq, ↓kSK6_eq, ↓we_get1, ↓kG1_eq, ↓kG2_d, ↓kG3_eq, ↓kG4_d, ↓kG5_s, ↓kG5_i, ↓we_get2, ↓kH1_eq, ↓kH2_d, ↓kH3_eq, ↓kH3b_eq, ↓kH4_d, ↓kH5_s, ↓kH5_i, ↓kWh_t, ↓kWh_f, ↓ws_while, ↓we_ext, ↓kEx0_eq, ↓kEx1_eq, ↓kEx3_eq, ↓kJ_nx, ↓kJ_rt, ↓kJ_bk, ↓kJ_ct, ↓kIs_eq, ↓kIsE_eq, wp_some, backSVs_nil, backSVs_cons, lock_unb, lock_fz, lock_own, plain_fz, plain_own, enter_fz, enter_own, put_ownE, put_refE, back_oo, back_of, back_ro, back_rf, back_fz, back_rfz, freeze_own, freeze_ref, freeze_fz, backAt_eq, findSV_nil, findSV_nil2, findSV_plc, findSV_fz, findSV_own, apart_nil, apart_fz, apart_own, apart_plc, placed_nil, placed_fz, placed_own, placed_plc, wipeE_nil, wipeE_cons, backE_nil, backE_cons, unlocked_nil, unlocked_cons, List.set_cons_zero, List.set_cons_succ, List.getD_cons_zero, List.getD_cons_succ, List.getElem?_cons_zero, List.getElem?_cons_succ, List.map_cons, List.map_nil, List.cons_append, List.nil_append, List.replicate_succ, List.replicate_zero, List.length_cons, List.length_nil, List.all_cons, List.all_nil, Nat.reduceSub, Nat.reduceAdd, Nat.reduceLeDiff, Nat.reduceEqDiff, Nat.reduceLT, Nat.zero_add, Bool.not_true, Bool.not_false, Bool.and_true, Bool.true_and, Bool.and_self, and_true, true_and, if_true, reduceIte, reduceCtorEq, decide_true, decide_false, Bool.false_eq_true, Bool.or_false, Bool.or_true, Bool.false_or, Bool.true_or, Bool.and_false, Bool.false_and, Nat.le_refl, lineN, Nat.one_ne_zero, Nat.zero_ne_one, addD_i, subD_i, negD_i, cmpI_i, eqD_i, neD_i, eqD_s, neD_s, eqD_b, neD_b, isD_n, isD_b, isNotD_n, isNotD_b, isBool_b, isNone_n, isNone_b, isNone_i, isNone_s, isNone_l, isNone_t, isNone_d, isi_eq, lenD_l, lenD_t, absD_n, maxD_m, minD_m, intD_i, listD_l, listD_t, tupleD_l, tupleD_t, isiB, mulSD_i, divD_i, modD_i, powD_i, ixD_l, ixD_t, ixD_s, slD_l, slD_t, slD_s, lenD_s, addD_s, addD_l, addD_t, strD_i, wp_bind, wp_guard, atI_0, atI_1, atI_2, atI_3, atI_4, ixN_0, ixN_1, ixN_2, Int.reduceNeg, Int.reduceSub, Int.reduceAdd, listD_s, tupleD_s, mulSD_s, small64_eq, decide_eq_true_eq, or_true, true_or, Int.reducePow, Int.reduceToNat, Int.reduceLE, Int.reduceLT, Int.reduceMul, Int.reduceEq, Int.zero_add, Nat.reducePow, Nat.reduceMul, Int.reduceAbs, rangeD_1, rangeD_2, rangeD_3, sortedD_l, maxLD_l, minLD_l, sumLD_l, reprD_1, ixD_ds, ixD_di, inD_ds, inD_di, notInD_ds, notInD_di, dictPD_l, intsOf_nil, intsOf_cons, Option.bind_some, List.max?_cons', List.min?_cons', List.foldl_cons, List.foldl_nil, kDictb_s, kDictb_int, Int.cast_ofNat_Int, upperD_eq, cutS_S, S_cps, S_len', SX.S_len, SX.S_cat, S_mk, repS_S, inD_S, notInD_S, signD_S, ixD_S, cutG_none, cutG_but, cutD_G, lit_0, lit_1, lit_2, lit_3, lit_4]); exact k _ _ _ _ _ _ (by omega) (by omega) (by omega) (by omega) (by omega) (by omega))

-- LITS: lit_0 lit_1 lit_2 lit_3 lit_4
/-! what is none -/
structure OddP (o : PyData) : Prop where
  near : nearB o = false
  spot : spotB o = false
  siz : szT o
  fine : fineD o
  dict : o.hasDict = false ∨ listFree o = true
  deep : o.depth ≤ 2
  wide : wt o ≤ 130
theorem odd_int {i : Int} (h : i.natAbs < 10 ^ 100) (h2 : ¬ (i.natAbs : Int) < 1000000000000) : OddP (.int i) :=
  ⟨by rw [nearB_int]; exact decide_eq_false h2, rfl, trivial, by rw [fineD]; exact h, .inl (by simp [PyData.hasDict]), by simp [PyData.depth], by simp [wt]⟩
theorem odd_ok {ns : List Int} {p c : Int} {P : List SV → RV → Prop} (k : ∀ (o : PyData) (p' c' : Int), OddP o → P [.own (penD ns p' c')] (.fz o)) : WC c_law_odd [.own (penD ns p c)] P := by
  unfold c_law_odd b_law_odd
  (try simp only [↓wx_0, ↓wx_s, ↓wv_fz, ↓wv_own, ↓wv_plc, ↓kView_fz, ↓kView_own, ↓kView_ref, ↓kView_rfz, ↓wf_fz, ↓wf_own, ↓wf_plc, ↓kFix_fz, ↓kFix_rfz, ↓kFix_own, ↓kFix_ref, ↓we_lit, ↓we_slot, ↓kSlot_fz, ↓kSlot_rfz, ↓kSlot_own, ↓kSlot_ref, ↓wa_nil, ↓wa_cons, ↓kCons1_eq, ↓kCons2_eq, ↓wvs_nil, ↓wvs_cons, ↓kVs1_eq, ↓kVs2_eq, ↓we_op2, ↓kOp2a_eq, ↓kOp2b_eq, ↓kOp2c_eq, ↓kOp2d_eq, ↓we_op1, ↓kOp1a_eq, ↓kOp1b_eq, ↓we_call, ↓kCalla_eq, ↓kCallb_eq, ↓wt_asT, ↓kAsT_eq, ↓wt_and, ↓wt_or, ↓wt_not, ↓kAnd_t, ↓kAnd_f, ↓kOr_t, ↓kOr_f, ↓kNot_eq, ↓we_eT, ↓kET_eq, ↓we_if, ↓kIfE_t, ↓kIfE_f, ↓we_chain, ↓kCh1_eq, ↓kCh2_eq, ↓kCh3_eq, ↓kCh4_eq, ↓kCh5_t, ↓kCh5_f, ↓wfs_nil, ↓wfs_cons, ↓kFs1_eq, ↓kFs2_eq, ↓we_tup, ↓we_lst, ↓kTup_eq, ↓kTupb_eq, ↓kLst_eq, ↓kLstb_eq, ↓we_dict, ↓kDict_eq, ↓kDictb_nil, ↓we_dictT, ↓kDictT_eq, ↓kDictTb_2, ↓wa_pairs0, ↓wa_pairs, ↓wo_no, ↓wo_sm, ↓kSm_eq, ↓we_sl, ↓kSl1_eq, ↓kSl2_eq, ↓kSl3_eq, ↓kSl4_eq, ↓we_m0, ↓we_m1, ↓kM0_eq, ↓kM1_eq, ↓kM1b_eq, ↓kM1c_eq, ↓wg_slot, ↓kGSlot_eq, ↓wgs_nil, ↓wgs_cons, ↓kGs_eq, ↓wg_unp, ↓wi_any, ↓kIAnyA_eq, ↓kIAny_l, ↓kIAny_t, ↓kIAny_s, ↓wi_r1, ↓wi_r2, ↓kR1_eq, ↓kR2_eq, ↓kR2a_eq, ↓we_lc, ↓kLc_eq, ↓kLcE_eq, ↓kLcF_eq, ↓kLcR_eq, ↓kLcT_eq, ↓kLcB_t, ↓kLcB_f, ↓wt_yes, ↓ws_skip, ↓ws_seq, ↓kSeq_nx, ↓kSeq_rt, ↓kSeq_bk, ↓kSeq_ct, ↓ws_expr, ↓kExpr_eq, ↓ws_set, ↓kSet_eq, ↓kSetL_eq, ↓kSetV_fz, ↓kSetV_own, ↓kSetV_plc, ↓kSetP_own, ↓kSetP_ref, ↓kSetP_fz, ↓ws_asg, ↓kAsg_fz, ↓kAsgB_eq, ↓ws_ret, ↓kRet_fz, ↓kRet_own, ↓kRet_plc, ↓kRetP_own, ↓kRetP_ref, ↓ws_retN, ↓ws_if, ↓kIf_t, ↓kIf_f, ↓ws_brk, ↓ws_cnt, ↓ws_for, ↓kFor_eq, ↓kLoop_nx, ↓kLoop_ct, ↓kLoop_bk, ↓kLoop_rt, ↓kBody_eq, ↓wl_eq, ↓kOwnL_own, ↓kOwnL_ref, ↓ws_setIx, ↓kSI1_eq, ↓kSI2_eq, ↓kSI3_eq, ↓kSI4_eq, ↓kSI5_eq, ↓we_app, ↓kAp0_eq, ↓kAp1_eq, ↓kAp2_eq, ↓kAp3_eq, ↓we_user, ↓kUsr_eq, ↓kUsr1_eq, ↓kUsr2_eq, ↓kUsr3_fz, ↓kUsr3_own, ↓warg_nil, ↓warg_fz, ↓warg_own, ↓warg_plc, ↓kArg1_eq, ↓kArg2_eq, ↓kArgP_own, ↓kArgP_ref, ↓kArgP_fz, ↓kArgP_rfz, ↓wc_run, ↓kRun_rt, ↓kRun_nx, ↓kRunR_fz, ↓kRunR_own, ↓wex_nil, ↓wex_fz, ↓wex_ref, ↓wex_rfz, ↓kEx_eq, ↓we_rev, ↓kRev0_eq, ↓kRev_l, ↓wk_eq, ↓kOwnK_own, ↓kOwnK_ref, ↓ws_setKey, ↓kSK1_eq, ↓kSK2_eq, ↓kSK3_eq, ↓kSK4_s, ↓kSK4_i, ↓kSK5_eq, ↓kSK6_eq, ↓we_get1, ↓kG1_eq, ↓kG2_d, ↓kG3_eq, ↓kG4_d, ↓kG5_s, ↓kG5_i, ↓we_get2, ↓kH1_eq, ↓kH2_d, ↓kH3_eq, ↓kH3b_eq, ↓kH4_d, ↓kH5_s, ↓kH5_i, ↓kWh_t, ↓kWh_f, ↓ws_while, ↓we_ext, ↓kEx0_eq, ↓kEx1_eq, ↓kEx3_eq, ↓kJ_nx, ↓kJ_rt, ↓kJ_bk, ↓kJ_ct, ↓kIs_eq, ↓kIsE_eq, wp_some, backSVs_nil, backSVs_cons, lock_unb, lock_fz, lock_own, plain_fz, plain_own, enter_fz, enter_own, put_ownE, put_refE, back_oo, back_of, back_ro, back_rf, back_fz, back_rfz, freeze_own, freeze_ref, freeze_fz, backAt_eq, findSV_nil, findSV_nil2, findSV_plc, findSV_fz, findSV_own, apart_nil, apart_fz, apart_own, apart_plc, placed_nil, placed_fz, placed_own, placed_plc, wipeE_nil, wipeE_cons, backE_nil, backE_cons, unlocked_nil, unlocked_cons, List.set_cons_zero, List.set_cons_succ, List.getD_cons_zero, List.getD_cons_succ, List.getElem?_cons_zero, List.getElem?_cons_succ, List.map_cons, List.map_nil, List.cons_append, List.nil_append, List.replicate_succ, List.replicate_zero, List.length_cons, List.length_nil, List.all_cons, List.all_nil, Nat.reduceSub, Nat.reduceAdd, Nat.reduceLeDiff, Nat.reduceEqDiff, Nat.reduceLT, Nat.zero_add, Bool.not_true, Bool.not_false, Bool.and_true, Bool.true_and, Bool.and_self, and_true, true_and, if_true, reduceIte, reduceCtorEq, decide_true, decide_false, Bool.false_eq_true, Bool.or_false, Bool.or_true, Bool.false_or, Bool.true_or, Bool.and_false, Bool.false_and, Nat.le_refl, lineN, Nat.one_ne_zero, Nat.zero_ne_one, addD_i, subD_i, negD_i, cmpI_i, eqD_i, neD_i, eqD_s, neD_s, eqD_b, neD_b, isD_n, isD_b, isNotD_n, isNotD_b, isBool_b, isNone_n, isNone_b, isNone_i, isNone_s, isNone_l, isNone_t, isNone_d, isi_eq, lenD_l, lenD_t, absD_n, maxD_m, minD_m, intD_i, listD_l, listD_t, tupleD_l, tupleD_t, isiB, mulSD_i, divD_i, modD_i, powD_i, ixD_l, ixD_t, ixD_s, slD_l, slD_t, slD_s, lenD_s, addD_s, addD_l, addD_t, strD_i, wp_bind, wp_guard, atI_0, atI_1, atI_2, atI_3, atI_4, ixN_0, ixN_1, ixN_2, Int.reduceNeg, Int.reduceSub, Int.reduceAdd, listD_s, tupleD_s, mulSD_s, small64_eq, decide_eq_true_eq, or_true, true_or, Int.reducePow, Int.reduceToNat, Int.reduceLE, Int.reduceLT, Int.reduceMul, Int.reduceEq, Int.zero_add, Nat.reducePow, Nat.reduceMul, Int.reduceAbs, rangeD_1, rangeD_2, rangeD_3, sortedD_l, maxLD_l, minLD_l, sumLD_l, reprD_1, ixD_ds, ixD_di, inD_ds, inD_di, notInD_ds, notInD_di, dictPD_l, intsOf_nil, intsOf_cons, Option.bind_some, List.max?_cons', List.min?_cons', List.foldl_cons, List.foldl_nil, kDictb_s, kDictb_int, Int.cast_ofNat_Int, upperD_eq, cutS_S, S_cps, S_len', SX.S_len, SX.S_cat, S_mk, repS_S, inD_S, notInD_S, signD_S, ixD_S, cutG_none, cutG_but, cutD_G, lit_0, lit_1, lit_2, lit_3, lit_4])
  refine take_ok (by decide) (by decide) fun r1 p1 c1 a1 b1 => ?_
  (try simp only [↓wx_0, ↓wx_s, ↓wv_fz, ↓wv_own, ↓wv_plc, ↓kView_fz, ↓kView_own, ↓kView_ref, ↓kView_rfz, ↓wf_fz, ↓wf_own, ↓wf_plc, ↓kFix_fz, ↓kFix_rfz, ↓kFix_own, ↓kFix_ref, ↓we_lit, ↓we_slot, ↓kSlot_fz, ↓kSlot_rfz, ↓kSlot_own, ↓kSlot_ref, ↓wa_nil, ↓wa_cons, ↓kCons1_eq, ↓kCons2_eq, ↓wvs_nil, ↓wvs_cons, ↓kVs1_eq, ↓kVs2_eq, ↓we_op2, ↓kOp2a_eq, ↓kOp2b_eq, ↓kOp2c_eq, ↓kOp2d_eq, ↓we_op1, ↓kOp1a_eq, ↓kOp1b_eq, ↓we_call, ↓kCalla_eq, ↓kCallb_eq, ↓wt_asT, ↓kAsT_eq, ↓wt_and, ↓wt_or, ↓wt_not, ↓kAnd_t, ↓kAnd_f, ↓kOr_t, ↓kOr_f, ↓kNot_eq, ↓we_eT, ↓kET_eq, ↓we_if, ↓kIfE_t, ↓kIfE_f, ↓we_chain, ↓kCh1_eq, ↓kCh2_eq, ↓kCh3_eq, ↓kCh4_eq, ↓kCh5_t, ↓kCh5_f, ↓wfs_nil, ↓wfs_cons, ↓kFs1_eq, ↓kFs2_eq, ↓we_tup, ↓we_lst, ↓kTup_eq, ↓kTupb_eq, ↓kLst_eq, ↓kLstb_eq, ↓we_dict, ↓kDict_eq, ↓kDictb_nil, ↓we_dictT, ↓kDictT_eq, ↓kDictTb_2, ↓wa_pairs0, ↓wa_pairs, ↓wo_no, ↓wo_sm, ↓kSm_eq, ↓we_sl, ↓kSl1_eq, ↓kSl2_eq, ↓kSl3_eq, ↓kSl4_eq, ↓we_m0, ↓we_m1, ↓kM0_eq, ↓kM1_eq, ↓kM1b_eq, ↓kM1c_eq, ↓wg_slot, ↓kGSlot_eq, ↓wgs_nil, ↓wgs_cons, ↓kGs_eq, ↓wg_unp, ↓wi_any, ↓kIAnyA_eq, ↓kIAny_l, ↓kIAny_t, ↓kIAny_s, ↓wi_r1, ↓wi_r2, ↓kR1_eq, ↓kR2_eq, ↓kR2a_eq, ↓we_lc, ↓kLc_eq, ↓kLcE_eq, ↓kLcF_eq, ↓kLcR_eq, ↓kLcT_eq, ↓kLcB_t, ↓kLcB_f, ↓wt_yes, ↓ws_skip, ↓ws_seq, ↓kSeq_nx, ↓kSeq_rt, ↓kSeq_bk, ↓kSeq_ct, ↓ws_expr, ↓kExpr_eq, ↓ws_set, ↓kSet_eq, ↓kSetL_eq, ↓kSetV_fz, ↓kSetV_own, ↓kSetV_plc, ↓kSetP_own, ↓kSetP_ref, ↓kSetP_fz, ↓ws_asg, ↓kAsg_fz, ↓kAsgB_eq, ↓ws_ret, ↓kRet_fz, ↓kRet_own, ↓kRet_plc, ↓kRetP_own, ↓kRetP_ref, ↓ws_retN, ↓ws_if, ↓kIf_t, ↓kIf_f, ↓ws_brk, ↓ws_cnt, ↓ws_for, ↓kFor_eq, ↓kLoop_nx, ↓kLoop_ct, ↓kLoop_bk, ↓kLoop_rt, ↓kBody_eq, ↓wl_eq, ↓kOwnL_own, ↓kOwnL_ref, ↓ws_setIx, ↓kSI1_eq, ↓kSI2_eq, ↓kSI3_eq, ↓kSI4_eq, ↓kSI5_eq, ↓we_app, ↓kAp0_eq, ↓kAp1_eq, ↓kAp2_eq, ↓kAp3_eq, ↓we_user, ↓kUsr_eq, ↓kUsr1_eq, ↓kUsr2_eq, ↓kUsr3_fz, ↓kUsr3_own, ↓warg_nil, ↓warg_fz, ↓warg_own, ↓warg_plc, ↓kArg1_eq, ↓kArg2_eq, ↓kArgP_own, ↓kArgP_ref, ↓kArgP_fz, ↓kArgP_rfz, ↓wc_run, ↓kRun_rt, ↓kRun_nx, ↓kRunR_fz, ↓kRunR_own, ↓wex_nil, ↓wex_fz, ↓wex_ref, ↓wex_rfz, ↓kEx_eq, ↓we_rev, ↓kRev0_eq, ↓kRev_l, ↓wk_eq, ↓kOwnK_own, ↓kOwnK_ref, ↓ws_setKey, ↓kSK1_eq, ↓kSK2_eq, ↓kSK3_eq, ↓kSK4_s, ↓kSK4_i, ↓kSK5_eq, ↓kSK6_eq, ↓we_get1, ↓kG1_eq, ↓kG2_d, ↓kG3_eq, ↓kG4_d, ↓kG5_s, ↓kG5_i, ↓we_get2, ↓kH1_eq, ↓kH2_d, ↓kH3_eq, ↓kH3b_eq, ↓kH4_d, ↓kH5_s, ↓kH5_i, ↓kWh_t, ↓kWh_f, ↓ws_while, ↓we_ext, ↓kEx0_eq, ↓kEx1_eq, ↓kEx3_eq, ↓kJ_nx, ↓kJ_rt, ↓kJ_bk, ↓kJ_ct, ↓kIs_eq, ↓kIsE_eq, wp_some, backSVs_nil, backSVs_cons, lock_unb, lock_fz, lock_own, plain_fz, plain_own, enter_fz, enter_own, put_ownE, put_refE, back_oo, back_of, back_ro, back_rf, back_fz, back_rfz, freeze_own, freeze_ref, freeze_fz, backAt_eq, findSV_nil, findSV_nil2, findSV_plc, findSV_fz, findSV_own, apart_nil, apart_fz, apart_own, apart_plc, placed_nil, placed_fz, placed_own, placed_plc, wipeE_nil, wipeE_cons, backE_nil, backE_cons, unlocked_nil, unlocked_cons, List.set_cons_zero, List.set_cons_succ, List.getD_cons_zero, List.getD_cons_succ, List.getElem?_cons_zero, List.getElem?_cons_succ, List.map_cons, List.map_nil, List.cons_append, List.nil_append, List.replicate_succ, List.replicate_zero, List.length_cons, List.length_nil, List.all_cons, List.all_nil, Nat.reduceSub, Nat.reduceAdd, Nat.reduceLeDiff, Nat.reduceEqDiff, Nat.reduceLT, Nat.zero_add, Bool.not_true, Bool.not_false, Bool.and_true, Bool.true_and, Bool.and_self, and_true, true_and, if_true, reduceIte, reduceCtorEq, decide_true, decide_false, Bool.false_eq_true, Bool.or_false, Bool.or_true, Bool.false_or, Bool.true_or, Bool.and_false, Bool.false_and, Nat.le_refl, lineN, Nat.one_ne_zero, Nat.zero_ne_one, addD_i, subD_i, negD_i, cmpI_i, eqD_i, neD_i, eqD_s, neD_s, eqD_b, neD_b, isD_n, isD_b, isNotD_n, isNotD_b, isBool_b, isNone_n, isNone_b, isNone_i, isNone_s, isNone_l, isNone_t, isNone_d, isi_eq, lenD_l, lenD_t, absD_n, maxD_m, minD_m, intD_i, listD_l, listD_t, tupleD_l, tupleD_t, isiB, mulSD_i, divD_i, modD_i, powD_i, ixD_l, ixD_t, ixD_s, slD_l, slD_t, slD_s, lenD_s, addD_s, addD_l, addD_t, strD_i, wp_bind, wp_guard, atI_0, atI_1, atI_2, atI_3, atI_4, ixN_0, ixN_1, ixN_2, Int.reduceNeg, Int.reduceSub, Int.reduceAdd, listD_s, tupleD_s, mulSD_s, small64_eq, decide_eq_true_eq, or_true, true_or, Int.reducePow, Int.reduceToNat, Int.reduceLE, Int.reduceLT, Int.reduceMul, Int.reduceEq, Int.zero_add, Nat.reducePow, Nat.reduceMul, Int.reduceAbs, rangeD_1, rangeD_2, rangeD_3, sortedD_l, maxLD_l, minLD_l, sumLD_l, reprD_1, ixD_ds, ixD_di, inD_ds, inD_di, notInD_ds, notInD_di, dictPD_l, intsOf_nil, intsOf_cons, Option.bind_some, List.max?_cons', List.min?_cons', List.foldl_cons, List.foldl_nil, kDictb_s, kDictb_int, Int.cast_ofNat_Int, upperD_eq, cutS_S, S_cps, S_len', SX.S_len, SX.S_cat, S_mk, repS_S, inD_S, notInD_S, signD_S, ixD_S, cutG_none, cutG_but, cutD_G, lit_0, lit_1, lit_2, lit_3, lit_4])
  refine take_ok (by decide) (by decide) fun r4 p4 c4 a4 b4 => ?_
  (try simp only [↓wx_0, ↓wx_s, ↓wv_fz, ↓wv_own, ↓wv_plc, ↓kView_fz, ↓kView_own, ↓kView_ref, ↓kView_rfz, ↓wf_fz, ↓wf_own, ↓wf_plc, ↓kFix_fz, ↓kFix_rfz, ↓kFix_own, ↓kFix_ref, ↓we_lit, ↓we_slot, ↓kSlot_fz, ↓kSlot_rfz, ↓kSlot_own, ↓kSlot_ref, ↓wa_nil, ↓wa_cons, ↓kCons1_eq, ↓kCons2_eq, ↓wvs_nil, ↓wvs_cons, ↓kVs1_eq, ↓kVs2_eq, ↓we_op2, ↓kOp2a_eq, ↓kOp2b_eq, ↓kOp2c_eq, ↓kOp2d_eq, ↓we_op1, ↓kOp1a_eq, ↓kOp1b_eq, ↓we_call, ↓kCalla_eq, ↓kCallb_eq, ↓wt_asT, ↓kAsT_eq, ↓wt_and, ↓wt_or, ↓wt_not, ↓kAnd_t, ↓kAnd_f, ↓kOr_t, ↓kOr_f, ↓kNot_eq, ↓we_eT, ↓kET_eq, ↓we_if, ↓kIfE_t, ↓kIfE_f, ↓we_chain, ↓kCh1_eq, ↓kCh2_eq, ↓kCh3_eq, ↓kCh4_eq, ↓kCh5_t, ↓kCh5_f, ↓wfs_nil, ↓wfs_cons, ↓kFs1_eq, ↓kFs2_eq, ↓we_tup, ↓we_lst, ↓kTup_eq, ↓kTupb_eq, ↓kLst_eq, ↓kLstb_eq, ↓we_dict, ↓kDict_eq, ↓kDictb_nil, ↓we_dictT, ↓kDictT_eq, ↓kDictTb_2, ↓wa_pairs0, ↓wa_pairs, ↓wo_no, ↓wo_sm, ↓kSm_eq, ↓we_sl, ↓kSl1_eq, ↓kSl2_eq, ↓kSl3_eq, ↓kSl4_eq, ↓we_m0, ↓we_m1, ↓kM0_eq, ↓kM1_eq, ↓kM1b_eq, ↓kM1c_eq, ↓wg_slot, ↓kGSlot_eq, ↓wgs_nil, ↓wgs_cons, ↓kGs_eq, ↓wg_unp, ↓wi_any, ↓kIAnyA_eq, ↓kIAny_l, ↓kIAny_t, ↓kIAny_s, ↓wi_r1, ↓wi_r2, ↓kR1_eq, ↓kR2_eq, ↓kR2a_eq, ↓we_lc, ↓kLc_eq, ↓kLcE_eq, ↓kLcF_eq, ↓kLcR_eq, ↓kLcT_eq, ↓kLcB_t, ↓kLcB_f, ↓wt_yes, ↓ws_skip, ↓ws_seq, ↓kSeq_nx, ↓kSeq_rt, ↓kSeq_bk, ↓kSeq_ct, ↓ws_expr, ↓kExpr_eq, ↓ws_set, ↓kSet_eq, ↓kSetL_eq, ↓kSetV_fz, ↓kSetV_own, ↓kSetV_plc, ↓kSetP_own, ↓kSetP_ref, ↓kSetP_fz, ↓ws_asg, ↓kAsg_fz, ↓kAsgB_eq, ↓ws_ret, ↓kRet_fz, ↓kRet_own, ↓kRet_plc, ↓kRetP_own, ↓kRetP_ref, ↓ws_retN, ↓ws_if, ↓kIf_t, ↓kIf_f, ↓ws_brk, ↓ws_cnt, ↓ws_for, ↓kFor_eq, ↓kLoop_nx, ↓kLoop_ct, ↓kLoop_bk, ↓kLoop_rt, ↓kBody_eq, ↓wl_eq, ↓kOwnL_own, ↓kOwnL_ref, ↓ws_setIx, ↓kSI1_eq, ↓kSI2_eq, ↓kSI3_eq, ↓kSI4_eq, ↓kSI5_eq, ↓we_app, ↓kAp0_eq, ↓kAp1_eq, ↓kAp2_eq, ↓kAp3_eq, ↓we_user, ↓kUsr_eq, ↓kUsr1_eq, ↓kUsr2_eq, ↓kUsr3_fz, ↓kUsr3_own, ↓warg_nil, ↓warg_fz, ↓warg_own, ↓warg_plc, ↓kArg1_eq, ↓kArg2_eq, ↓kArgP_own, ↓kArgP_ref, ↓kArgP_fz, ↓kArgP_rfz, ↓wc_run, ↓kRun_rt, ↓kRun_nx, ↓kRunR_fz, ↓kRunR_own, ↓wex_nil, ↓wex_fz, ↓wex_ref, ↓wex_rfz, ↓kEx_eq, ↓we_rev, ↓kRev0_eq, ↓kRev_l, ↓wk_eq, ↓kOwnK_own, ↓kOwnK_ref, ↓ws_setKey, ↓kSK1_eq, ↓kSK2_eq, ↓kSK3_eq, ↓kSK4_s, ↓kSK4_i, ↓kSK5_eq, ↓kSK6_eq, ↓we_get1, ↓kG1_eq, ↓kG2_d, ↓kG3_eq, ↓kG4_d, ↓kG5_s, ↓kG5_i, ↓we_get2, ↓kH1_eq, ↓kH2_d, ↓kH3_eq, ↓kH3b_eq, ↓kH4_d, ↓kH5_s, ↓kH5_i, ↓kWh_t, ↓kWh_f, ↓ws_while, ↓we_ext, ↓kEx0_eq, ↓kEx1_eq, ↓kEx3_eq, ↓kJ_nx, ↓kJ_rt, ↓kJ_bk, ↓kJ_ct, ↓kIs_eq, ↓kIsE_eq, wp_some, backSVs_nil, backSVs_cons, lock_unb, lock_fz, lock_own, plain_fz, plain_own, enter_fz, enter_own, put_ownE, put_refE, back_oo, back_of, back_ro, back_rf, back_fz, back_rfz, freeze_own, freeze_ref, freeze_fz, backAt_eq, findSV_nil, findSV_nil2, findSV_plc, findSV_fz, findSV_own, apart_nil, apart_fz, apart_own, apart_plc, placed_nil, placed_fz, placed_own, placed_plc, wipeE_nil, wipeE_cons, backE_nil, backE_cons, unlocked_nil, unlocked_cons, List.set_cons_zero, List.set_cons_succ, List.getD_cons_zero, List.getD_cons_succ, List.getElem?_cons_zero, List.getElem?_cons_succ, List.map_cons, List.map_nil, List.cons_append, List.nil_append, List.replicate_succ, List.replicate_zero, List.length_cons, List.length_nil, List.all_cons, List.all_nil, Nat.reduceSub, Nat.reduceAdd, Nat.reduceLeDiff, Nat.reduceEqDiff, Nat.reduceLT, Nat.zero_add, Bool.not_true, Bool.not_false, Bool.and_true, Bool.true_and, Bool.and_self, and_true, true_and, if_true, reduceIte, reduceCtorEq, decide_true, decide_false, Bool.false_eq_true, Bool.or_false, Bool.or_true, Bool.false_or, Bool.true_or, Bool.and_false, Bool.false_and, Nat.le_refl, lineN, Nat.one_ne_zero, Nat.zero_ne_one, addD_i, subD_i, negD_i, cmpI_i, eqD_i, neD_i, eqD_s, neD_s, eqD_b, neD_b, isD_n, isD_b, isNotD_n, isNotD_b, isBool_b, isNone_n, isNone_b, isNone_i, isNone_s, isNone_l, isNone_t, isNone_d, isi_eq, lenD_l, lenD_t, absD_n, maxD_m, minD_m, intD_i, listD_l, listD_t, tupleD_l, tupleD_t, isiB, mulSD_i, divD_i, modD_i, powD_i, ixD_l, ixD_t, ixD_s, slD_l, slD_t, slD_s, lenD_s, addD_s, addD_l, addD_t, strD_i, wp_bind, wp_guard, atI_0, atI_1, atI_2, atI_3, atI_4, ixN_0, ixN_1, ixN_2, Int.reduceNeg, Int.reduceSub, Int.reduceAdd, listD_s, tupleD_s, mulSD_s, small64_eq, decide_eq_true_eq, or_true, true_or, Int.reducePow, Int.reduceToNat, Int.reduceLE, Int.reduceLT, Int.reduceMul, Int.reduceEq, Int.zero_add, Nat.reducePow, Nat.reduceMul, Int.reduceAbs, rangeD_1, rangeD_2, rangeD_3, sortedD_l, maxLD_l, minLD_l, sumLD_l, reprD_1, ixD_ds, ixD_di, inD_ds, inD_di, notInD_ds, notInD_di, dictPD_l, intsOf_nil, intsOf_cons, Option.bind_some, List.max?_cons', List.min?_cons', List.foldl_cons, List.foldl_nil, kDictb_s, kDictb_int, Int.cast_ofNat_Int, upperD_eq, cutS_S, S_cps, S_len', SX.S_len, SX.S_cat, S_mk, repS_S, inD_S, notInD_S, signD_S, ixD_S, cutG_none, cutG_but, cutD_G, lit_0, lit_1, lit_2, lit_3, lit_4])
  refine wp_at a4 b4 fun d hd => ?_
  have hm := List.mem_of_getElem? hd
  simp only [List.mem_cons, List.not_mem_nil, or_false] at hm
  have h : OddP d := by
    rcases hm with rfl | rfl | rfl | rfl | rfl | rfl | rfl | rfl | rfl | rfl | rfl | rfl | rfl
    case inr.inr.inr.inr.inr.inl => exact odd_int (by decide) (by decide)
    case inr.inr.inr.inr.inr.inr.inl => exact odd_int (by decide) (by decide)
    case inr.inr.inr.inr.inr.inr.inr.inl => exact odd_int (by decide) (by decide)
    case inr.inr.inr.inr.inr.inr.inr.inr.inl => exact odd_int (by omega) (by omega)
    all_goals exact ⟨rfl, rfl, by simp [szT, lineN], by simp [fineD, fineAll, fineKv], by simp [PyData.hasDict, PyData.hasDictAll, listFree, listFreeKv], by simp [PyData.depth, PyData.depthAll, PyData.depthKv], by simp [wt, wtAll, wtKv, SX.S_len]⟩
  clear hm hd
  (try simp only [↓wx_0, ↓wx_s, ↓wv_fz, ↓wv_own, ↓wv_plc, ↓kView_fz, ↓kView_own, ↓kView_ref, ↓kView_rfz, ↓wf_fz, ↓wf_own, ↓wf_plc, ↓kFix_fz, ↓kFix_rfz, ↓kFix_own, ↓kFix_ref, ↓we_lit, ↓we_slot, ↓kSlot_fz, ↓kSlot_rfz, ↓kSlot_own, ↓kSlot_ref, ↓wa_nil, ↓wa_cons, ↓kCons1_eq, ↓kCons2_eq, ↓wvs_nil, ↓wvs_cons, ↓kVs1_eq, ↓kVs2_eq, ↓we_op2, ↓kOp2a_eq, ↓kOp2b_eq, ↓kOp2c_eq, ↓kOp2d_eq, ↓we_op1, ↓kOp1a_eq, ↓kOp1b_eq, ↓we_call, ↓kCalla_eq, ↓kCallb_eq, ↓wt_asT, ↓kAsT_eq, ↓wt_and, ↓wt_or, ↓wt_not, ↓kAnd_t, ↓kAnd_f, ↓kOr_t, ↓kOr_f, ↓kNot_eq, ↓we_eT, ↓kET_eq, ↓we_if, ↓kIfE_t, ↓kIfE_f, ↓we_chain, ↓kCh1_eq, ↓kCh2_eq, ↓kCh3_eq, ↓kCh4_eq, ↓kCh5_t, ↓kCh5_f, ↓wfs_nil, ↓wfs_cons, ↓kFs1_eq, ↓kFs2_eq, ↓we_tup, ↓we_lst, ↓kTup_eq, ↓kTupb_eq, ↓kLst_eq, ↓kLstb_eq, ↓we_dict, ↓kDict_eq, ↓kDictb_nil, ↓we_dictT, ↓kDictT_eq, ↓kDictTb_2, ↓wa_pairs0, ↓wa_pairs, ↓wo_no, ↓wo_sm, ↓kSm_eq, ↓we_sl, ↓kSl1_eq, ↓kSl2_eq, ↓kSl3_eq, ↓kSl4_eq, ↓we_m0, ↓we_m1, ↓kM0_eq, ↓kM1_eq, ↓kM1b_eq, ↓kM1c_eq, ↓wg_slot, ↓kGSlot_eq, ↓wgs_nil, ↓wgs_cons, ↓kGs_eq, ↓wg_unp, ↓wi_any, ↓kIAnyA_eq, ↓kIAny_l, ↓kIAny_t, ↓kIAny_s, ↓wi_r1, ↓wi_r2, ↓kR1_eq, ↓kR2_eq, ↓kR2a_eq, ↓we_lc, ↓kLc_eq, ↓kLcE_eq, ↓kLcF_eq, ↓kLcR_eq, ↓kLcT_eq, ↓kLcB_t, ↓kLcB_f, ↓wt_yes, ↓ws_skip, ↓ws_seq, ↓kSeq_nx, ↓kSeq_rt, ↓kSeq_bk, ↓kSeq_ct, ↓ws_expr, ↓kExpr_eq, ↓ws_set, ↓kSet_eq, ↓kSetL_eq, ↓kSetV_fz, ↓kSetV_own, ↓kSetV_plc, ↓kSetP_own, ↓kSetP_ref, ↓kSetP_fz, ↓ws_asg, ↓kAsg_fz, ↓kAsgB_eq, ↓ws_ret, ↓kRet_fz, ↓kRet_own, ↓kRet_plc, ↓kRetP_own, ↓kRetP_ref, ↓ws_retN, ↓ws_if, ↓kIf_t, ↓kIf_f, ↓ws_brk, ↓ws_cnt, ↓ws_for, ↓kFor_eq, ↓kLoop_nx, ↓kLoop_ct, ↓kLoop_bk, ↓kLoop_rt, ↓kBody_eq, ↓wl_eq, ↓kOwnL_own, ↓kOwnL_ref, ↓ws_setIx, ↓kSI1_eq, ↓kSI2_eq, ↓kSI3_eq, ↓kSI4_eq, ↓kSI5_eq, ↓we_app, ↓kAp0_eq, ↓kAp1_eq, ↓kAp2_eq, ↓kAp3_eq, ↓we_user, ↓kUsr_eq, ↓kUsr1_eq, ↓kUsr2_eq, ↓kUsr3_fz, ↓kUsr3_own, ↓warg_nil, ↓warg_fz, ↓warg_own, ↓warg_plc, ↓kArg1_eq, ↓kArg2_eq, ↓kArgP_own, ↓kArgP_ref, ↓kArgP_fz, ↓kArgP_rfz, ↓wc_run, ↓kRun_rt, ↓kRun_nx, ↓kRunR_fz, ↓kRunR_own, ↓wex_nil, ↓wex_fz, ↓wex_ref, ↓wex_rfz, ↓kEx_eq, ↓we_rev, ↓kRev0_eq, ↓kRev_l, ↓wk_eq, ↓kOwnK_own, ↓kOwnK_ref, ↓ws_setKey, ↓kSK1_eq, ↓kSK2_eq, ↓kSK3_eq, ↓kSK4_s, ↓kSK4_i, ↓kSK5_eq, ↓kSK6_eq, ↓we_get1, ↓kG1_eq, ↓kG2_d, ↓kG3_eq, ↓kG4_d, ↓kG5_s, ↓kG5_i, ↓we_get2, ↓kH1_eq, ↓kH2_d, ↓kH3_eq, ↓kH3b_eq, ↓kH4_d, ↓kH5_s, ↓kH5_i, ↓kWh_t, ↓kWh_f, ↓ws_while, ↓we_ext, ↓kEx0_eq, ↓kEx1_eq, ↓kEx3_eq, ↓kJ_nx, ↓kJ_rt, ↓kJ_bk, ↓kJ_ct, ↓kIs_eq, ↓kIsE_eq, wp_some, backSVs_nil, backSVs_cons, lock_unb, lock_fz, lock_own, plain_fz, plain_own, enter_fz, enter_own, put_ownE, put_refE, back_oo, back_of, back_ro, back_rf, back_fz, back_rfz, freeze_own, freeze_ref, freeze_fz, backAt_eq, findSV_nil, findSV_nil2, findSV_plc, findSV_fz, findSV_own, apart_nil, apart_fz, apart_own, apart_plc, placed_nil, placed_fz, placed_own, placed_plc, wipeE_nil, wipeE_cons, backE_nil, backE_cons, unlocked_nil, unlocked_cons, List.set_cons_zero, List.set_cons_succ, List.getD_cons_zero, List.getD_cons_succ, List.getElem?_cons_zero, List.getElem?_cons_succ, List.map_cons, List.map_nil, List.cons_append, List.nil_append, List.replicate_succ, List.replicate_zero, List.length_cons, List.length_nil, List.all_cons, List.all_nil, Nat.reduceSub, Nat.reduceAdd, Nat.reduceLeDiff, Nat.reduceEqDiff, Nat.reduceLT, Nat.zero_add, Bool.not_true, Bool.not_false, Bool.and_true, Bool.true_and, Bool.and_self, and_true, true_and, if_true, reduceIte, reduceCtorEq, decide_true, decide_false, Bool.false_eq_true, Bool.or_false, Bool.or_true, Bool.false_or, Bool.true_or, Bool.and_false, Bool.false_and, Nat.le_refl, lineN, Nat.one_ne_zero, Nat.zero_ne_one, addD_i, subD_i, negD_i, cmpI_i, eqD_i, neD_i, eqD_s, neD_s, eqD_b, neD_b, isD_n, isD_b, isNotD_n, isNotD_b, isBool_b, isNone_n, isNone_b, isNone_i, isNone_s, isNone_l, isNone_t, isNone_d, isi_eq, lenD_l, lenD_t, absD_n, maxD_m, minD_m, intD_i, listD_l, listD_t, tupleD_l, tupleD_t, isiB, mulSD_i, divD_i, modD_i, powD_i, ixD_l, ixD_t, ixD_s, slD_l, slD_t, slD_s, lenD_s, addD_s, addD_l, addD_t, strD_i, wp_bind, wp_guard, atI_0, atI_1, atI_2, atI_3, atI_4, ixN_0, ixN_1, ixN_2, Int.reduceNeg, Int.reduceSub, Int.reduceAdd, listD_s, tupleD_s, mulSD_s, small64_eq, decide_eq_true_eq, or_true, true_or, Int.reducePow, Int.reduceToNat, Int.reduceLE, Int.reduceLT, Int.reduceMul, Int.reduceEq, Int.zero_add, Nat.reducePow, Nat.reduceMul, Int.reduceAbs, rangeD_1, rangeD_2, rangeD_3, sortedD_l, maxLD_l, minLD_l, sumLD_l, reprD_1, ixD_ds, ixD_di, inD_ds, inD_di, notInD_ds, notInD_di, dictPD_l, intsOf_nil, intsOf_cons, Option.bind_some, List.max?_cons', List.min?_cons', List.foldl_cons, List.foldl_nil, kDictb_s, kDictb_int, Int.cast_ofNat_Int, upperD_eq, cutS_S, S_cps, S_len', SX.S_len, SX.S_cat, S_mk, repS_S, inD_S, notInD_S, signD_S, ixD_S, cutG_none, cutG_but, cutD_G, lit_0, lit_1, lit_2, lit_3, lit_4])
  exact k _ _ _ h
theorem nearB_t {l : List PyData} : nearB (.tuple l) = false := by unfold nearB; rfl
theorem spotB_2 {a b : PyData} : spotB (.tuple [a, b]) = (nearB a && nearB b) := by unfold spotB; rfl
theorem spotB_0 : spotB (.tuple []) = false := by unfold spotB; rfl
theorem spotB_1 {a : PyData} : spotB (.tuple [a]) = false := by unfold spotB; rfl
theorem spotB_3 {a b c : PyData} {l : List PyData} : spotB (.tuple (a :: b :: c :: l)) = false := by unfold spotB; rfl
theorem spotB_n {d : PyData} (h : ∀ l, d ≠ .tuple l) : spotB d = false := by
  unfold spotB
  split
  · exact absurd rfl (h _)
  · rfl
theorem nrFit {x : Int} (h : nrI x) : x.natAbs < 10 ^ 100 := by
  unfold nrI at h
  omega
theorem no_spots_ok {ns : List Int} {p c x y : Int} {P : List SV → RV → Prop} (hx : nrI x) (hy : nrI y) (k : ∀ (p' c' : Int) (ds : List PyData), (∀ d ∈ ds, spotB d = false ∧ szT d ∧ ReprOk d) → P [.own (penD ns p' c'), .fz (.tuple [.int x, .int y])] (.own (.list ds))) :
    WC c_law_no_spots [.own (penD ns p c), .fz (.tuple [.int x, .int y])] P := by
  unfold c_law_no_spots b_law_no_spots
  (try simp only [↓wx_0, ↓wx_s, ↓wv_fz, ↓wv_own, ↓wv_plc, ↓kView_fz, ↓kView_own, ↓kView_ref, ↓kView_rfz, ↓wf_fz, ↓wf_own, ↓wf_plc, ↓kFix_fz, ↓kFix_rfz, ↓kFix_own, ↓kFix_ref, ↓we_lit, ↓we_slot, ↓kSlot_fz, ↓kSlot_rfz, ↓kSlot_own, ↓kSlot_ref, ↓wa_nil, ↓wa_cons, ↓kCons1_eq, ↓kCons2_eq, ↓wvs_nil, ↓wvs_cons, ↓kVs1_eq, ↓kVs2_eq, ↓we_op2, ↓kOp2a_eq, ↓kOp2b_eq, ↓kOp2c_eq, ↓kOp2d_eq, ↓we_op1, ↓kOp1a_eq, ↓kOp1b_eq, ↓we_call, ↓kCalla_eq, ↓kCallb_eq, ↓wt_asT, ↓kAsT_eq, ↓wt_and, ↓wt_or, ↓wt_not, ↓kAnd_t, ↓kAnd_f, ↓kOr_t, ↓kOr_f, ↓kNot_eq, ↓we_eT, ↓kET_eq, ↓we_if, ↓kIfE_t, ↓kIfE_f, ↓we_chain, ↓kCh1_eq, ↓kCh2_eq, ↓kCh3_eq, ↓kCh4_eq, ↓kCh5_t, ↓kCh5_f, ↓wfs_nil, ↓wfs_cons, ↓kFs1_eq, ↓kFs2_eq, ↓we_tup, ↓we_lst, ↓kTup_eq, ↓kTupb_eq, ↓kLst_eq, ↓kLstb_eq, ↓we_dict, ↓kDict_eq, ↓kDictb_nil, ↓we_dictT, ↓kDictT_eq, ↓kDictTb_2, ↓wa_pairs0, ↓wa_pairs, ↓wo_no, ↓wo_sm, ↓kSm_eq, ↓we_sl, ↓kSl1_eq, ↓kSl2_eq, ↓kSl3_eq, ↓kSl4_eq, ↓we_m0, ↓we_m1, ↓kM0_eq, ↓kM1_eq, ↓kM1b_eq, ↓kM1c_eq, ↓wg_slot, ↓kGSlot_eq, ↓wgs_nil, ↓wgs_cons, ↓kGs_eq, ↓wg_unp, ↓wi_any, ↓kIAnyA_eq, ↓kIAny_l, ↓kIAny_t, ↓kIAny_s, ↓wi_r1, ↓wi_r2, ↓kR1_eq, ↓kR2_eq, ↓kR2a_eq, ↓we_lc, ↓kLc_eq, ↓kLcE_eq, ↓kLcF_eq, ↓kLcR_eq, ↓kLcT_eq, ↓kLcB_t, ↓kLcB_f, ↓wt_yes, ↓ws_skip, ↓ws_seq, ↓kSeq_nx, ↓kSeq_rt, ↓kSeq_bk, ↓kSeq_ct, ↓ws_expr, ↓kExpr_eq, ↓ws_set, ↓kSet_eq, ↓kSetL_eq, ↓kSetV_fz, ↓kSetV_own, ↓kSetV_plc, ↓kSetP_own, ↓kSetP_ref, ↓kSetP_fz, ↓ws_asg, ↓kAsg_fz, ↓kAsgB_eq, ↓ws_ret, ↓kRet_fz, ↓kRet_own, ↓kRet_plc, ↓kRetP_own, ↓kRetP_ref, ↓ws_retN, ↓ws_if, ↓kIf_t, ↓kIf_f, ↓ws_brk, ↓ws_cnt, ↓ws_for, ↓kFor_eq, ↓kLoop_nx, ↓kLoop_ct, ↓kLoop_bk, ↓kLoop_rt, ↓kBody_eq, ↓wl_eq, ↓kOwnL_own, ↓kOwnL_ref, ↓ws_setIx, ↓kSI1_eq, ↓kSI2_eq, ↓kSI3_eq, ↓kSI4_eq, ↓kSI5_eq, ↓we_app, ↓kAp0_eq, ↓kAp1_eq, ↓kAp2_eq, ↓kAp3_eq, ↓we_user, ↓kUsr_eq, ↓kUsr1_eq, ↓kUsr2_eq, ↓kUsr3_fz, ↓kUsr3_own, ↓warg_nil, ↓warg_fz, ↓warg_own, ↓warg_plc, ↓kArg1_eq, ↓kArg2_eq, ↓kArgP_own, ↓kArgP_ref, ↓kArgP_fz, ↓kArgP_rfz, ↓wc_run, ↓kRun_rt, ↓kRun_nx, ↓kRunR_fz, ↓kRunR_own, ↓wex_nil, ↓wex_fz, ↓wex_ref, ↓wex_rfz, ↓kEx_eq, ↓we_rev, ↓kRev0_eq, ↓kRev_l, ↓wk_eq, ↓kOwnK_own, ↓kOwnK_ref, ↓ws_setKey, ↓kSK1_eq, ↓kSK2_eq, ↓kSK3_eq, ↓kSK4_s, ↓kSK4_i, ↓kSK5_eq, ↓kSK6_eq, ↓we_get1, ↓kG1_eq, ↓kG2_d, ↓kG3_eq, ↓kG4_d, ↓kG5_s, ↓kG5_i, ↓we_get2, ↓kH1_eq, ↓kH2_d, ↓kH3_eq, ↓kH3b_eq, ↓kH4_d, ↓kH5_s, ↓kH5_i, ↓kWh_t, ↓kWh_f, ↓ws_while, ↓we_ext, ↓kEx0_eq, ↓kEx1_eq, ↓kEx3_eq, ↓kJ_nx, ↓kJ_rt, ↓kJ_bk, ↓kJ_ct, ↓kIs_eq, ↓kIsE_eq, wp_some, backSVs_nil, backSVs_cons, lock_unb, lock_fz, lock_own, plain_fz, plain_own, enter_fz, enter_own, put_ownE, put_refE, back_oo, back_of, back_ro, back_rf, back_fz, back_rfz, freeze_own, freeze_ref, freeze_fz, backAt_eq, findSV_nil, findSV_nil2, findSV_plc, findSV_fz, findSV_own, apart_nil, apart_fz, apart_own, apart_plc, placed_nil, placed_fz, placed_own, placed_plc, wipeE_nil, wipeE_cons, backE_nil, backE_cons, unlocked_nil, unlocked_cons, List.set_cons_zero, List.set_cons_succ, List.getD_cons_zero, List.getD_cons_succ, List.getElem?_cons_zero, List.getElem?_cons_succ, List.map_cons, List.map_nil, List.cons_append, List.nil_append, List.replicate_succ, List.replicate_zero, List.length_cons, List.length_nil, List.all_cons, List.all_nil, Nat.reduceSub, Nat.reduceAdd, Nat.reduceLeDiff, Nat.reduceEqDiff, Nat.reduceLT, Nat.zero_add, Bool.not_true, Bool.not_false, Bool.and_true, Bool.true_and, Bool.and_self, and_true, true_and, if_true, reduceIte, reduceCtorEq, decide_true, decide_false, Bool.false_eq_true, Bool.or_false, Bool.or_true, Bool.false_or, Bool.true_or, Bool.and_false, Bool.false_and, Nat.le_refl, lineN, Nat.one_ne_zero, Nat.zero_ne_one, addD_i, subD_i, negD_i, cmpI_i, eqD_i, neD_i, eqD_s, neD_s, eqD_b, neD_b, isD_n, isD_b, isNotD_n, isNotD_b, isBool_b, isNone_n, isNone_b, isNone_i, isNone_s, isNone_l, isNone_t, isNone_d, isi_eq, lenD_l, lenD_t, absD_n, maxD_m, minD_m, intD_i, listD_l, listD_t, tupleD_l, tupleD_t, isiB, mulSD_i, divD_i, modD_i, powD_i, ixD_l, ixD_t, ixD_s, slD_l, slD_t, slD_s, lenD_s, addD_s, addD_l, addD_t, strD_i, wp_bind, wp_guard, atI_0, atI_1, atI_2, atI_3, atI_4, ixN_0, ixN_1, ixN_2, Int.reduceNeg, Int.reduceSub, Int.reduceAdd, listD_s, tupleD_s, mulSD_s, small64_eq, decide_eq_true_eq, or_true, true_or, Int.reducePow, Int.reduceToNat, Int.reduceLE, Int.reduceLT, Int.reduceMul, Int.reduceEq, Int.zero_add, Nat.reducePow, Nat.reduceMul, Int.reduceAbs, rangeD_1, rangeD_2, rangeD_3, sortedD_l, maxLD_l, minLD_l, sumLD_l, reprD_1, ixD_ds, ixD_di, inD_ds, inD_di, notInD_ds, notInD_di, dictPD_l, intsOf_nil, intsOf_cons, Option.bind_some, List.max?_cons', List.min?_cons', List.foldl_cons, List.foldl_nil, kDictb_s, kDictb_int, Int.cast_ofNat_Int, upperD_eq, cutS_S, S_cps, S_len', SX.S_len, SX.S_cat, S_mk, repS_S, inD_S, notInD_S, signD_S, ixD_S, cutG_none, cutG_but, cutD_G, lit_0, lit_1, lit_2, lit_3, lit_4])
  refine odd_ok fun o p1 c1 h => ?_
  have fx := nrFit hx
  have fy := nrFit hy
  (try simp only [↓wx_0, ↓wx_s, ↓wv_fz, ↓wv_own, ↓wv_plc, ↓kView_fz, ↓kView_own, ↓kView_ref, ↓kView_rfz, ↓wf_fz, ↓wf_own, ↓wf_plc, ↓kFix_fz, ↓kFix_rfz, ↓kFix_own, ↓kFix_ref, ↓we_lit, ↓we_slot, ↓kSlot_fz, ↓kSlot_rfz, ↓kSlot_own, ↓kSlot_ref, ↓wa_nil, ↓wa_cons, ↓kCons1_eq, ↓kCons2_eq, ↓wvs_nil, ↓wvs_cons, ↓kVs1_eq, ↓kVs2_eq, ↓we_op2, ↓kOp2a_eq, ↓kOp2b_eq, ↓kOp2c_eq, ↓kOp2d_eq, ↓we_op1, ↓kOp1a_eq, ↓kOp1b_eq, ↓we_call, ↓kCalla_eq, ↓kCallb_eq, ↓wt_asT, ↓kAsT_eq, ↓wt_and, ↓wt_or, ↓wt_not, ↓kAnd_t, ↓kAnd_f, ↓kOr_t, ↓kOr_f, ↓kNot_eq, ↓we_eT, ↓kET_eq, ↓we_if, ↓kIfE_t, ↓kIfE_f, ↓we_chain, ↓kCh1_eq, ↓kCh2_eq, ↓kCh3_eq, ↓kCh4_eq, ↓kCh5_t, ↓kCh5_f, ↓wfs_nil, ↓wfs_cons, ↓kFs1_eq, ↓kFs2_eq, ↓we_tup, ↓we_lst, ↓kTup_eq, ↓kTupb_eq, ↓kLst_eq, ↓kLstb_eq, ↓we_dict, ↓kDict_eq, ↓kDictb_nil, ↓we_dictT, ↓kDictT_eq, ↓kDictTb_2, ↓wa_pairs0, ↓wa_pairs, ↓wo_no, ↓wo_sm, ↓kSm_eq, ↓we_sl, ↓kSl1_eq, ↓kSl2_eq, ↓kSl3_eq, ↓kSl4_eq, ↓we_m0, ↓we_m1, ↓kM0_eq, ↓kM1_eq, ↓kM1b_eq, ↓kM1c_eq, ↓wg_slot, ↓kGSlot_eq, ↓wgs_nil, ↓wgs_cons, ↓kGs_eq, ↓wg_unp, ↓wi_any, ↓kIAnyA_eq, ↓kIAny_l, ↓kIAny_t, ↓kIAny_s, ↓wi_r1, ↓wi_r2, ↓kR1_eq, ↓kR2_eq, ↓kR2a_eq, ↓we_lc, ↓kLc_eq, ↓kLcE_eq, ↓kLcF_eq, ↓kLcR_eq, ↓kLcT_eq, ↓kLcB_t, ↓kLcB_f, ↓wt_yes, ↓ws_skip, ↓ws_seq, ↓kSeq_nx, ↓kSeq_rt, ↓kSeq_bk, ↓kSeq_ct, ↓ws_expr, ↓kExpr_eq, ↓ws_set, ↓kSet_eq, ↓kSetL_eq, ↓kSetV_fz, ↓kSetV_own, ↓kSetV_plc, ↓kSetP_own, ↓kSetP_ref, ↓kSetP_fz, ↓ws_asg, ↓kAsg_fz, ↓kAsgB_eq, ↓ws_ret, ↓kRet_fz, ↓kRet_own, ↓kRet_plc, ↓kRetP_own, ↓kRetP_ref, ↓ws_retN, ↓ws_if, ↓kIf_t, ↓kIf_f, ↓ws_brk, ↓ws_cnt, ↓ws_for, ↓kFor_eq, ↓kLoop_nx, ↓kLoop_ct, ↓kLoop_bk, ↓kLoop_rt, ↓kBody_eq, ↓wl_eq, ↓kOwnL_own, ↓kOwnL_ref, ↓ws_setIx, ↓kSI1_eq, ↓kSI2_eq, ↓kSI3_eq, ↓kSI4_eq, ↓kSI5_eq, ↓we_app, ↓kAp0_eq, ↓kAp1_eq, ↓kAp2_eq, ↓kAp3_eq, ↓we_user, ↓kUsr_eq, ↓kUsr1_eq, ↓kUsr2_eq, ↓kUsr3_fz, ↓kUsr3_own, ↓warg_nil, ↓warg_fz, ↓warg_own, ↓warg_plc, ↓kArg1_eq, ↓kArg2_eq, ↓kArgP_own, ↓kArgP_ref, ↓kArgP_fz, ↓kArgP_rfz, ↓wc_run, ↓kRun_rt, ↓kRun_nx, ↓kRunR_fz, ↓kRunR_own, ↓wex_nil, ↓wex_fz, ↓wex_ref, ↓wex_rfz, ↓kEx_eq, ↓we_rev, ↓kRev0_eq, ↓kRev_l, ↓wk_eq, ↓kOwnK_own, ↓kOwnK_ref, ↓ws_setKey, ↓kSK1_eq, ↓kSK2_eq, ↓kSK3_eq, ↓kSK4_s, ↓kSK4_i, ↓kSK5_eq, ↓kSK6_eq, ↓we_get1, ↓kG1_eq, ↓kG2_d, ↓kG3_eq, ↓kG4_d, ↓kG5_s, ↓kG5_i, ↓we_get2, ↓kH1_eq, ↓kH2_d, ↓kH3_eq, ↓kH3b_eq, ↓kH4_d, ↓kH5_s, ↓kH5_i, ↓kWh_t, ↓kWh_f, ↓ws_while, ↓we_ext, ↓kEx0_eq, ↓kEx1_eq, ↓kEx3_eq, ↓kJ_nx, ↓kJ_rt, ↓kJ_bk, ↓kJ_ct, ↓kIs_eq, ↓kIsE_eq, wp_some, backSVs_nil, backSVs_cons, lock_unb, lock_fz, lock_own, plain_fz, plain_own, enter_fz, enter_own, put_ownE, put_refE, back_oo, back_of, back_ro, back_rf, back_fz, back_rfz, freeze_own, freeze_ref, freeze_fz, backAt_eq, findSV_nil, findSV_nil2, findSV_plc, findSV_fz, findSV_own, apart_nil, apart_fz, apart_own, apart_plc, placed_nil, placed_fz, placed_own, placed_plc, wipeE_nil, wipeE_cons, backE_nil, backE_cons, unlocked_nil, unlocked_cons, List.set_cons_zero, List.set_cons_succ, List.getD_cons_zero, List.getD_cons_succ, List.getElem?_cons_zero, List.getElem?_cons_succ, List.map_cons, List.map_nil, List.cons_append, List.nil_append, List.replicate_succ, List.replicate_zero, List.length_cons, List.length_nil, List.all_cons, List.all_nil, Nat.reduceSub, Nat.reduceAdd, Nat.reduceLeDiff, Nat.reduceEqDiff, Nat.reduceLT, Nat.zero_add, Bool.not_true, Bool.not_false, Bool.and_true, Bool.true_and, Bool.and_self, and_true, true_and, if_true, reduceIte, reduceCtorEq, decide_true, decide_false, Bool.false_eq_true, Bool.or_false, Bool.or_true, Bool.false_or, Bool.true_or, Bool.and_false, Bool.false_and, Nat.le_refl, lineN, Nat.one_ne_zero, Nat.zero_ne_one, addD_i, subD_i, negD_i, cmpI_i, eqD_i, neD_i, eqD_s, neD_s, eqD_b, neD_b, isD_n, isD_b, isNotD_n, isNotD_b, isBool_b, isNone_n, isNone_b, isNone_i, isNone_s, isNone_l, isNone_t, isNone_d, isi_eq, lenD_l, lenD_t, absD_n, maxD_m, minD_m, intD_i, listD_l, listD_t, tupleD_l, tupleD_t, isiB, mulSD_i, divD_i, modD_i, powD_i, ixD_l, ixD_t, ixD_s, slD_l, slD_t, slD_s, lenD_s, addD_s, addD_l, addD_t, strD_i, wp_bind, wp_guard, atI_0, atI_1, atI_2, atI_3, atI_4, ixN_0, ixN_1, ixN_2, Int.reduceNeg, Int.reduceSub, Int.reduceAdd, listD_s, tupleD_s, mulSD_s, small64_eq, decide_eq_true_eq, or_true, true_or, Int.reducePow, Int.reduceToNat, Int.reduceLE, Int.reduceLT, Int.reduceMul, Int.reduceEq, Int.zero_add, Nat.reducePow, Nat.reduceMul, Int.reduceAbs, rangeD_1, rangeD_2, rangeD_3, sortedD_l, maxLD_l, minLD_l, sumLD_l, reprD_1, ixD_ds, ixD_di, inD_ds, inD_di, notInD_ds, notInD_di, dictPD_l, intsOf_nil, intsOf_cons, Option.bind_some, List.max?_cons', List.min?_cons', List.foldl_cons, List.foldl_nil, kDictb_s, kDictb_int, Int.cast_ofNat_Int, upperD_eq, cutS_S, S_cps, S_len', SX.S_len, SX.S_cat, S_mk, repS_S, inD_S, notInD_S, signD_S, ixD_S, cutG_none, cutG_but, cutD_G, lit_0, lit_1, lit_2, lit_3, lit_4])
  refine ⟨([.inr (SX.S [120]), .inr (SX.S [121])], [.int x, .int y]), rfl, ⟨(show ([.inr (SX.S [120]), .inr (SX.S [121])] : List Key).Nodup by decide +kernel), (show 2 ≤ 15 by decide)⟩, ?_⟩
  show kCons1 aNil _ _ (.own (.dict [(.str (SX.S [120]), .int x), (.str (SX.S [121]), .int y)]))
  (try simp only [↓wx_0, ↓wx_s, ↓wv_fz, ↓wv_own, ↓wv_plc, ↓kView_fz, ↓kView_own, ↓kView_ref, ↓kView_rfz, ↓wf_fz, ↓wf_own, ↓wf_plc, ↓kFix_fz, ↓kFix_rfz, ↓kFix_own, ↓kFix_ref, ↓we_lit, ↓we_slot, ↓kSlot_fz, ↓kSlot_rfz, ↓kSlot_own, ↓kSlot_ref, ↓wa_nil, ↓wa_cons, ↓kCons1_eq, ↓kCons2_eq, ↓wvs_nil, ↓wvs_cons, ↓kVs1_eq, ↓kVs2_eq, ↓we_op2, ↓kOp2a_eq, ↓kOp2b_eq, ↓kOp2c_eq, ↓kOp2d_eq, ↓we_op1, ↓kOp1a_eq, ↓kOp1b_eq, ↓we_call, ↓kCalla_eq, ↓kCallb_eq, ↓wt_asT, ↓kAsT_eq, ↓wt_and, ↓wt_or, ↓wt_not, ↓kAnd_t, ↓kAnd_f, ↓kOr_t, ↓kOr_f, ↓kNot_eq, ↓we_eT, ↓kET_eq, ↓we_if, ↓kIfE_t, ↓kIfE_f, ↓we_chain, ↓kCh1_eq, ↓kCh2_eq, ↓kCh3_eq, ↓kCh4_eq, ↓kCh5_t, ↓kCh5_f, ↓wfs_nil, ↓wfs_cons, ↓kFs1_eq, ↓kFs2_eq, ↓we_tup, ↓we_lst, ↓kTup_eq, ↓kTupb_eq, ↓kLst_eq, ↓kLstb_eq, ↓we_dict, ↓kDict_eq, ↓kDictb_nil, ↓we_dictT, ↓kDictT_eq, ↓kDictTb_2, ↓wa_pairs0, ↓wa_pairs, ↓wo_no, ↓wo_sm, ↓kSm_eq, ↓we_sl, ↓kSl1_eq, ↓kSl2_eq, ↓kSl3_eq, ↓kSl4_eq, ↓we_m0, ↓we_m1, ↓kM0_eq, ↓kM1_eq, ↓kM1b_eq, ↓kM1c_eq, ↓wg_slot, ↓kGSlot_eq, ↓wgs_nil, ↓wgs_cons, ↓kGs_eq, ↓wg_unp, ↓wi_any, ↓kIAnyA_eq, ↓kIAny_l, ↓kIAny_t, ↓kIAny_s, ↓wi_r1, ↓wi_r2, ↓kR1_eq, ↓kR2_eq, ↓kR2a_eq, ↓we_lc, ↓kLc_eq, ↓kLcE_eq, ↓kLcF_eq, ↓kLcR_eq, ↓kLcT_eq, ↓kLcB_t, ↓kLcB_f, ↓wt_yes, ↓ws_skip, ↓ws_seq, ↓kSeq_nx, ↓kSeq_rt, ↓kSeq_bk, ↓kSeq_ct, ↓ws_expr, ↓kExpr_eq, ↓ws_set, ↓kSet_eq, ↓kSetL_eq, ↓kSetV_fz, ↓kSetV_own, ↓kSetV_plc, ↓kSetP_own, ↓kSetP_ref, ↓kSetP_fz, ↓ws_asg, ↓kAsg_fz, ↓kAsgB_eq, ↓ws_ret, ↓kRet_fz, ↓kRet_own, ↓kRet_plc, ↓kRetP_own, ↓kRetP_ref, ↓ws_retN, ↓ws_if, ↓kIf_t, ↓kIf_f, ↓ws_brk, ↓ws_cnt, ↓ws_for, ↓kFor_eq, ↓kLoop_nx, ↓kLoop_ct, ↓kLoop_bk, ↓kLoop_rt, ↓kBody_eq, ↓wl_eq, ↓kOwnL_own, ↓kOwnL_ref, ↓ws_setIx, ↓kSI1_eq, ↓kSI2_eq, ↓kSI3_eq, ↓kSI4_eq, ↓kSI5_eq, ↓we_app, ↓kAp0_eq, ↓kAp1_eq, ↓kAp2_eq, ↓kAp3_eq, ↓we_user, ↓kUsr_eq, ↓kUsr1_eq, ↓kUsr2_eq, ↓kUsr3_fz, ↓kUsr3_own, ↓warg_nil, ↓warg_fz, ↓warg_own, ↓warg_plc, ↓kArg1_eq, ↓kArg2_eq, ↓kArgP_own, ↓kArgP_ref, ↓kArgP_fz, ↓kArgP_rfz, ↓wc_run, ↓kRun_rt, ↓kRun_nx, ↓kRunR_fz, ↓kRunR_own, ↓wex_nil, ↓wex_fz, ↓wex_ref, ↓wex_rfz, ↓kEx_eq, ↓we_rev, ↓kRev0_eq, ↓kRev_l, ↓wk_eq, ↓kOwnK_own, ↓kOwnK_ref, ↓ws_setKey, ↓kSK1_eq, ↓kSK2_eq, ↓kSK3_eq, ↓kSK4_s, ↓kSK4_i, ↓kSK5_eq, ↓kSK6_eq, ↓we_get1, ↓kG1_eq, ↓kG2_d, ↓kG3_eq, ↓kG4_d, ↓kG5_s, ↓kG5_i, ↓we_get2, ↓kH1_eq, ↓kH2_d, ↓kH3_eq, ↓kH3b_eq, ↓kH4_d, ↓kH5_s, ↓kH5_i, ↓kWh_t, ↓kWh_f, ↓ws_while, ↓we_ext, ↓kEx0_eq, ↓kEx1_eq, ↓kEx3_eq, ↓kJ_nx, ↓kJ_rt, ↓kJ_bk, ↓kJ_ct, ↓kIs_eq, ↓kIsE_eq, wp_some, backSVs_nil, backSVs_cons, lock_unb, lock_fz, lock_own, plain_fz, plain_own, enter_fz, enter_own, put_ownE, put_refE, back_oo, back_of, back_ro, back_rf, back_fz, back_rfz, freeze_own, freeze_ref, freeze_fz, backAt_eq, findSV_nil, findSV_nil2, findSV_plc, findSV_fz, findSV_own, apart_nil, apart_fz, apart_own, apart_plc, placed_nil, placed_fz, placed_own, placed_plc, wipeE_nil, wipeE_cons, backE_nil, backE_cons, unlocked_nil, unlocked_cons, List.set_cons_zero, List.set_cons_succ, List.getD_cons_zero, List.getD_cons_succ, List.getElem?_cons_zero, List.getElem?_cons_succ, List.map_cons, List.map_nil, List.cons_append, List.nil_append, List.replicate_succ, List.replicate_zero, List.length_cons, List.length_nil, List.all_cons, List.all_nil, Nat.reduceSub, Nat.reduceAdd, Nat.reduceLeDiff, Nat.reduceEqDiff, Nat.reduceLT, Nat.zero_add, Bool.not_true, Bool.not_false, Bool.and_true, Bool.true_and, Bool.and_self, and_true, true_and, if_true, reduceIte, reduceCtorEq, decide_true, decide_false, Bool.false_eq_true, Bool.or_false, Bool.or_true, Bool.false_or, Bool.true_or, Bool.and_false, Bool.false_and, Nat.le_refl, lineN, Nat.one_ne_zero, Nat.zero_ne_one, addD_i, subD_i, negD_i, cmpI_i, eqD_i, neD_i, eqD_s, neD_s, eqD_b, neD_b, isD_n, isD_b, isNotD_n, isNotD_b, isBool_b, isNone_n, isNone_b, isNone_i, isNone_s, isNone_l, isNone_t, isNone_d, isi_eq, lenD_l, lenD_t, absD_n, maxD_m, minD_m, intD_i, listD_l, listD_t, tupleD_l, tupleD_t, isiB, mulSD_i, divD_i, modD_i, powD_i, ixD_l, ixD_t, ixD_s, slD_l, slD_t, slD_s, lenD_s, addD_s, addD_l, addD_t, strD_i, wp_bind, wp_guard, atI_0, atI_1, atI_2, atI_3, atI_4, ixN_0, ixN_1, ixN_2, Int.reduceNeg, Int.reduceSub, Int.reduceAdd, listD_s, tupleD_s, mulSD_s, small64_eq, decide_eq_true_eq, or_true, true_or, Int.reducePow, Int.reduceToNat, Int.reduceLE, Int.reduceLT, Int.reduceMul, Int.reduceEq, Int.zero_add, Nat.reducePow, Nat.reduceMul, Int.reduceAbs, rangeD_1, rangeD_2, rangeD_3, sortedD_l, maxLD_l, minLD_l, sumLD_l, reprD_1, ixD_ds, ixD_di, inD_ds, inD_di, notInD_ds, notInD_di, dictPD_l, intsOf_nil, intsOf_cons, Option.bind_some, List.max?_cons', List.min?_cons', List.foldl_cons, List.foldl_nil, kDictb_s, kDictb_int, Int.cast_ofNat_Int, upperD_eq, cutS_S, S_cps, S_len', SX.S_len, SX.S_cat, S_mk, repS_S, inD_S, notInD_S, signD_S, ixD_S, cutG_none, cutG_but, cutD_G, lit_0, lit_1, lit_2, lit_3, lit_4])
  refine k _ _ _ fun d hd => ?_
  have h1 := h.near
  have h2 := h.fine
  have h3 := h.deep
  have h4 := h.wide
  have h5 := h.dict
  simp only [List.mem_cons, List.not_mem_nil, or_false] at hd
  rcases hd with rfl | rfl | rfl | rfl | rfl | rfl | rfl | rfl | rfl | rfl | rfl | rfl | rfl | rfl | rfl | rfl | rfl | rfl | rfl | rfl
  all_goals refine ⟨?_, by simp [szT, lineN], ?_, ?_, ?_, ?_⟩
  all_goals first
    | (simp only [fineD, fineAll, fineKv, fx, fy, h2, and_self, true_and, and_true]; done)
    | (simp [PyData.hasDict, PyData.hasDictAll, listFree, listFreeKv, listFreeAll]; done)
    | (simp [PyData.hasDict, PyData.hasDictAll, listFree, listFreeKv, listFreeAll]; exact h5)
    | (simp [PyData.depth, PyData.depthAll, PyData.depthKv]; done)
    | (simp [PyData.depth, PyData.depthAll, PyData.depthKv]; omega)
    | (simp [wt, wtAll, wtKv, SX.S_len, lineN]; done)
    | (simp [wt, wtAll, wtKv, SX.S_len, lineN]; omega)
    | (simp only [spotB_2, h1, nearB_t, Bool.and_false, Bool.false_and]; done)
    | exact spotB_0
    | exact spotB_1
    | exact spotB_3
    | (refine spotB_n ?_; intro l z; cases z; done)
    | (simp only [fineD, fineAll, fineKv, fx, fy, and_self, true_and, and_true]; decide)
    | (simp only [fineD, fineAll, fineKv, fx, fy, S_cps, and_self, true_and, and_true]; decide)

theorem boxB_2 {a b : PyData} : boxB (.tuple [a, b]) = (spotB a && spotB b && leB a b) := by unfold boxB; rfl
theorem boxB_0 : boxB (.tuple []) = false := by unfold boxB; rfl
theorem boxB_1 {a : PyData} : boxB (.tuple [a]) = false := by unfold boxB; rfl
theorem boxB_3 {a b c : PyData} {l : List PyData} : boxB (.tuple (a :: b :: c :: l)) = false := by unfold boxB; rfl
theorem boxB_n {d : PyData} (h : ∀ l, d ≠ .tuple l) : boxB d = false := by
  unfold boxB
  split
  · exact absurd rfl (h _)
  · rfl
theorem spotB_l {l : List PyData} : spotB (.list l) = false := spotB_n (by intro l z; cases z)
theorem spotB_i {i : Int} : spotB (.int i) = false := spotB_n (by intro l z; cases z)
theorem spotB_t {a b : List PyData} : spotB (.tuple [.tuple a, .tuple b]) = false := by rw [spotB_2, nearB_t, Bool.false_and]
theorem leB_up1 {x y u v : Int} (h : y < x) : leB (.tuple [.int x, .int u]) (.tuple [.int y, .int v]) = false := by
  rw [leB_tt, decide_eq_false (by omega), Bool.false_and]
theorem leB_up2 {x y u v : Int} (h : v < u) : leB (.tuple [.int x, .int u]) (.tuple [.int y, .int v]) = false := by
  rw [leB_tt, decide_eq_false (p := u ≤ v) (by omega), Bool.and_false]
theorem no_boxes_ok {ns : List Int} {p c x y u v : Int} {P : List SV → RV → Prop} (hx : nrI x) (hy : nrI y) (hu : nrI u) (hv : nrI v) (hxu : x ≤ u) (hyv : y ≤ v)
    (k : ∀ (p' c' : Int) (ds : List PyData), (∀ d ∈ ds, boxB d = false ∧ szB d ∧ ReprOk d) → P [.own (penD ns p' c'), .fz (.tuple [.tuple [.int x, .int y], .tuple [.int u, .int v]])] (.own (.list ds))) :
    WC c_law_no_boxes [.own (penD ns p c), .fz (.tuple [.tuple [.int x, .int y], .tuple [.int u, .int v]])] P := by
  unfold c_law_no_boxes b_law_no_boxes
  (try simp only [↓wx_0, ↓wx_s, ↓wv_fz, ↓wv_own, ↓wv_plc, ↓kView_fz, ↓kView_own, ↓kView_ref, ↓kView_rfz, ↓wf_fz, ↓wf_own, ↓wf_plc, ↓kFix_fz, ↓kFix_rfz, ↓kFix_own, ↓kFix_ref, ↓we_lit, ↓we_slot, ↓kSlot_fz, ↓kSlot_rfz, ↓kSlot_own, ↓kSlot_ref, ↓wa_nil, ↓wa_cons, ↓kCons1_eq, ↓kCons2_eq, ↓wvs_nil, ↓wvs_cons, ↓kVs1_eq, ↓kVs2_eq, ↓we_op2, ↓kOp2a_eq, ↓kOp2b_eq, ↓kOp2c_eq, ↓kOp2d_eq, ↓we_op1, ↓kOp1a_eq, ↓kOp1b_eq, ↓we_call, ↓kCalla_eq, ↓kCallb_eq, ↓wt_asT, ↓kAsT_eq, ↓wt_and, ↓wt_or, ↓wt_not, ↓kAnd_t, ↓kAnd_f, ↓kOr_t, ↓kOr_f, ↓kNot_eq, ↓we_eT, ↓kET_eq, ↓we_if, ↓kIfE_t, ↓kIfE_f, ↓we_chain, ↓kCh1_eq, ↓kCh2_eq, ↓kCh3_eq, ↓kCh4_eq, ↓kCh5_t, ↓kCh5_f, ↓wfs_nil, ↓wfs_cons, ↓kFs1_eq, ↓kFs2_eq, ↓we_tup, ↓we_lst, ↓kTup_eq, ↓kTupb_eq, ↓kLst_eq, ↓kLstb_eq, ↓we_dict, ↓kDict_eq, ↓kDictb_nil, ↓we_dictT, ↓kDictT_eq, ↓kDictTb_2, ↓wa_pairs0, ↓wa_pairs, ↓wo_no, ↓wo_sm, ↓kSm_eq, ↓we_sl, ↓kSl1_eq, ↓kSl2_eq, ↓kSl3_eq, ↓kSl4_eq, ↓we_m0, ↓we_m1, ↓kM0_eq, ↓kM1_eq, ↓kM1b_eq, ↓kM1c_eq, ↓wg_slot, ↓kGSlot_eq, ↓wgs_nil, ↓wgs_cons, ↓kGs_eq, ↓wg_unp, ↓wi_any, ↓kIAnyA_eq, ↓kIAny_l, ↓kIAny_t, ↓kIAny_s, ↓wi_r1, ↓wi_r2, ↓kR1_eq, ↓kR2_eq, ↓kR2a_eq, ↓we_lc, ↓kLc_eq, ↓kLcE_eq, ↓kLcF_eq, ↓kLcR_eq, ↓kLcT_eq, ↓kLcB_t, ↓kLcB_f, ↓wt_yes, ↓ws_skip, ↓ws_seq, ↓kSeq_nx, ↓kSeq_rt, ↓kSeq_bk, ↓kSeq_ct, ↓ws_expr, ↓kExpr_eq, ↓ws_set, ↓kSet_eq, ↓kSetL_eq, ↓kSetV_fz, ↓kSetV_own, ↓kSetV_plc, ↓kSetP_own, ↓kSetP_ref, ↓kSetP_fz, ↓ws_asg, ↓kAsg_fz, ↓kAsgB_eq, ↓ws_ret, ↓kRet_fz, ↓kRet_own, ↓kRet_plc, ↓kRetP_own, ↓kRetP_ref, ↓ws_retN, ↓ws_if, ↓kIf_t, ↓kIf_f, ↓ws_brk, ↓ws_cnt, ↓ws_for, ↓kFor_eq, ↓kLoop_nx, ↓kLoop_ct, ↓kLoop_bk, ↓kLoop_rt, ↓kBody_eq, ↓wl_eq, ↓kOwnL_own, ↓kOwnL_ref, ↓ws_setIx, ↓kSI1_eq, ↓kSI2_eq, ↓kSI3_eq, ↓kSI4_eq, ↓kSI5_eq, ↓we_app, ↓kAp0_eq, ↓kAp1_eq, ↓kAp2_eq, ↓kAp3_eq, ↓we_user, ↓kUsr_eq, ↓kUsr1_eq, ↓kUsr2_eq, ↓kUsr3_fz, ↓kUsr3_own, ↓warg_nil, ↓warg_fz, ↓warg_own, ↓warg_plc, ↓kArg1_eq, ↓kArg2_eq, ↓kArgP_own, ↓kArgP_ref, ↓kArgP_fz, ↓kArgP_rfz, ↓wc_run, ↓kRun_rt, ↓kRun_nx, ↓kRunR_fz, ↓kRunR_own, ↓wex_nil, ↓wex_fz, ↓wex_ref, ↓wex_rfz, ↓kEx_eq, ↓we_rev, ↓kRev0_eq, ↓kRev_l, ↓wk_eq, ↓kOwnK_own, ↓kOwnK_ref, ↓ws_setKey, ↓kSK1_eq, ↓kSK2_eq, ↓kSK3_eq, ↓kSK4_s, ↓kSK4_i, ↓kSK5_eq, ↓kSK6_eq, ↓we_get1, ↓kG1_eq, ↓kG2_d, ↓kG3_eq, ↓kG4_d, ↓kG5_s, ↓kG5_i, ↓we_get2, ↓kH1_eq, ↓kH2_d, ↓kH3_eq, ↓kH3b_eq, ↓kH4_d, ↓kH5_s, ↓kH5_i, ↓kWh_t, ↓kWh_f, ↓ws_while, ↓we_ext, ↓kEx0_eq, ↓kEx1_eq, ↓kEx3_eq, ↓kJ_nx, ↓kJ_rt, ↓kJ_bk, ↓kJ_ct, ↓kIs_eq, ↓kIsE_eq, wp_some, backSVs_nil, backSVs_cons, lock_unb, lock_fz, lock_own, plain_fz, plain_own, enter_fz, enter_own, put_ownE, put_refE, back_oo, back_of, back_ro, back_rf, back_fz, back_rfz, freeze_own, freeze_ref, freeze_fz, backAt_eq, findSV_nil, findSV_nil2, findSV_plc, findSV_fz, findSV_own, apart_nil, apart_fz, apart_own, apart_plc, placed_nil, placed_fz, placed_own, placed_plc, wipeE_nil, wipeE_cons, backE_nil, backE_cons, unlocked_nil, unlocked_cons, List.set_cons_zero, List.set_cons_succ, List.getD_cons_zero, List.getD_cons_succ, List.getElem?_cons_zero, List.getElem?_cons_succ, List.map_cons, List.map_nil, List.cons_append, List.nil_append, List.replicate_succ, List.replicate_zero, List.length_cons, List.length_nil, List.all_cons, List.all_nil, Nat.reduceSub, Nat.reduceAdd, Nat.reduceLeDiff, Nat.reduceEqDiff, Nat.reduceLT, Nat.zero_add, Bool.not_true, Bool.not_false, Bool.and_true, Bool.true_and, Bool.and_self, and_true, true_and, if_true, reduceIte, reduceCtorEq, decide_true, decide_false, Bool.false_eq_true, Bool.or_false, Bool.or_true, Bool.false_or, Bool.true_or, Bool.and_false, Bool.false_and, Nat.le_refl, lineN, Nat.one_ne_zero, Nat.zero_ne_one, addD_i, subD_i, negD_i, cmpI_i, eqD_i, neD_i, eqD_s, neD_s, eqD_b, neD_b, isD_n, isD_b, isNotD_n, isNotD_b, isBool_b, isNone_n, isNone_b, isNone_i, isNone_s, isNone_l, isNone_t, isNone_d, isi_eq, lenD_l, lenD_t, absD_n, maxD_m, minD_m, intD_i, listD_l, listD_t, tupleD_l, tupleD_t, isiB, mulSD_i, divD_i, modD_i, powD_i, ixD_l, ixD_t, ixD_s, slD_l, slD_t, slD_s, lenD_s, addD_s, addD_l, addD_t, strD_i, wp_bind, wp_guard, atI_0, atI_1, atI_2, atI_3, atI_4, ixN_0, ixN_1, ixN_2, Int.reduceNeg, Int.reduceSub, Int.reduceAdd, listD_s, tupleD_s, mulSD_s, small64_eq, decide_eq_true_eq, or_true, true_or, Int.reducePow, Int.reduceToNat, Int.reduceLE, Int.reduceLT, Int.reduceMul, Int.reduceEq, Int.zero_add, Nat.reducePow, Nat.reduceMul, Int.reduceAbs, rangeD_1, rangeD_2, rangeD_3, sortedD_l, maxLD_l, minLD_l, sumLD_l, reprD_1, ixD_ds, ixD_di, inD_ds, inD_di, notInD_ds, notInD_di, dictPD_l, intsOf_nil, intsOf_cons, Option.bind_some, List.max?_cons', List.min?_cons', List.foldl_cons, List.foldl_nil, kDictb_s, kDictb_int, Int.cast_ofNat_Int, upperD_eq, cutS_S, S_cps, S_len', SX.S_len, SX.S_cat, S_mk, repS_S, inD_S, notInD_S, signD_S, ixD_S, cutG_none, cutG_but, cutD_G, lit_0, lit_1, lit_2, lit_3, lit_4])
  refine odd_ok fun o p1 c1 h => ?_
  (try simp only [↓wx_0, ↓wx_s, ↓wv_fz, ↓wv_own, ↓wv_plc, ↓kView_fz, ↓kView_own, ↓kView_ref, ↓kView_rfz, ↓wf_fz, ↓wf_own, ↓wf_plc, ↓kFix_fz, ↓kFix_rfz, ↓kFix_own, ↓kFix_ref, ↓we_lit, ↓we_slot, ↓kSlot_fz, ↓kSlot_rfz, ↓kSlot_own, ↓kSlot_ref, ↓wa_nil, ↓wa_cons, ↓kCons1_eq, ↓kCons2_eq, ↓wvs_nil, ↓wvs_cons, ↓kVs1_eq, ↓kVs2_eq, ↓we_op2, ↓kOp2a_eq, ↓kOp2b_eq, ↓kOp2c_eq, ↓kOp2d_eq, ↓we_op1, ↓kOp1a_eq, ↓kOp1b_eq, ↓we_call, ↓kCalla_eq, ↓kCallb_eq, ↓wt_asT, ↓kAsT_eq, ↓wt_and, ↓wt_or, ↓wt_not, ↓kAnd_t, ↓kAnd_f, ↓kOr_t, ↓kOr_f, ↓kNot_eq, ↓we_eT, ↓kET_eq, ↓we_if, ↓kIfE_t, ↓kIfE_f, ↓we_chain, ↓kCh1_eq, ↓kCh2_eq, ↓kCh3_eq, ↓kCh4_eq, ↓kCh5_t, ↓kCh5_f, ↓wfs_nil, ↓wfs_cons, ↓kFs1_eq, ↓kFs2_eq, ↓we_tup, ↓we_lst, ↓kTup_eq, ↓kTupb_eq, ↓kLst_eq, ↓kLstb_eq, ↓we_dict, ↓kDict_eq, ↓kDictb_nil, ↓we_dictT, ↓kDictT_eq, ↓kDictTb_2, ↓wa_pairs0, ↓wa_pairs, ↓wo_no, ↓wo_sm, ↓kSm_eq, ↓we_sl, ↓kSl1_eq, ↓kSl2_eq, ↓kSl3_eq, ↓kSl4_eq, ↓we_m0, ↓we_m1, ↓kM0_eq, ↓kM1_eq, ↓kM1b_eq, ↓kM1c_eq, ↓wg_slot, ↓kGSlot_eq, ↓wgs_nil, ↓wgs_cons, ↓kGs_eq, ↓wg_unp, ↓wi_any, ↓kIAnyA_eq, ↓kIAny_l, ↓kIAny_t, ↓kIAny_s, ↓wi_r1, ↓wi_r2, ↓kR1_eq, ↓kR2_eq, ↓kR2a_eq, ↓we_lc, ↓kLc_eq, ↓kLcE_eq, ↓kLcF_eq, ↓kLcR_eq, ↓kLcT_eq, ↓kLcB_t, ↓kLcB_f, ↓wt_yes, ↓ws_skip, ↓ws_seq, ↓kSeq_nx, ↓kSeq_rt, ↓kSeq_bk, ↓kSeq_ct, ↓ws_expr, ↓kExpr_eq, ↓ws_set, ↓kSet_eq, ↓kSetL_eq, ↓kSetV_fz, ↓kSetV_own, ↓kSetV_plc, ↓kSetP_own, ↓kSetP_ref, ↓kSetP_fz, ↓ws_asg, ↓kAsg_fz, ↓kAsgB_eq, ↓ws_ret, ↓kRet_fz, ↓kRet_own, ↓kRet_plc, ↓kRetP_own, ↓kRetP_ref, ↓ws_retN, ↓ws_if, ↓kIf_t, ↓kIf_f, ↓ws_brk, ↓ws_cnt, ↓ws_for, ↓kFor_eq, ↓kLoop_nx, ↓kLoop_ct, ↓kLoop_bk, ↓kLoop_rt, ↓kBody_eq, ↓wl_eq, ↓kOwnL_own, ↓kOwnL_ref, ↓ws_setIx, ↓kSI1_eq, ↓kSI2_eq, ↓kSI3_eq, ↓kSI4_eq, ↓kSI5_eq, ↓we_app, ↓kAp0_eq, ↓kAp1_eq, ↓kAp2_eq, ↓kAp3_eq, ↓we_user, ↓kUsr_eq, ↓kUsr1_eq, ↓kUsr2_eq, ↓kUsr3_fz, ↓kUsr3_own, ↓warg_nil, ↓warg_fz, ↓warg_own, ↓warg_plc, ↓kArg1_eq, ↓kArg2_eq, ↓kArgP_own, ↓kArgP_ref, ↓kArgP_fz, ↓kArgP_rfz, ↓wc_run, ↓kRun_rt, ↓kRun_nx, ↓kRunR_fz, ↓kRunR_own, ↓wex_nil, ↓wex_fz, ↓wex_ref, ↓wex_rfz, ↓kEx_eq, ↓we_rev, ↓kRev0_eq, ↓kRev_l, ↓wk_eq, ↓kOwnK_own, ↓kOwnK_ref, ↓ws_setKey, ↓kSK1_eq, ↓kSK2_eq, ↓kSK3_eq, ↓kSK4_s, ↓kSK4_i, ↓kSK5_eq, ↓kSK6_eq, ↓we_get1, ↓kG1_eq, ↓kG2_d, ↓kG3_eq, ↓kG4_d, ↓kG5_s, ↓kG5_i, ↓we_get2, ↓kH1_eq, ↓kH2_d, ↓kH3_eq, ↓kH3b_eq, ↓kH4_d, ↓kH5_s, ↓kH5_i, ↓kWh_t, ↓kWh_f, ↓ws_while, ↓we_ext, ↓kEx0_eq, ↓kEx1_eq, ↓kEx3_eq, ↓kJ_nx, ↓kJ_rt, ↓kJ_bk, ↓kJ_ct, ↓kIs_eq, ↓kIsE_eq, wp_some, backSVs_nil, backSVs_cons, lock_unb, lock_fz, lock_own, plain_fz, plain_own, enter_fz, enter_own, put_ownE, put_refE, back_oo, back_of, back_ro, back_rf, back_fz, back_rfz, freeze_own, freeze_ref, freeze_fz, backAt_eq, findSV_nil, findSV_nil2, findSV_plc, findSV_fz, findSV_own, apart_nil, apart_fz, apart_own, apart_plc, placed_nil, placed_fz, placed_own, placed_plc, wipeE_nil, wipeE_cons, backE_nil, backE_cons, unlocked_nil, unlocked_cons, List.set_cons_zero, List.set_cons_succ, List.getD_cons_zero, List.getD_cons_succ, List.getElem?_cons_zero, List.getElem?_cons_succ, List.map_cons, List.map_nil, List.cons_append, List.nil_append, List.replicate_succ, List.replicate_zero, List.length_cons, List.length_nil, List.all_cons, List.all_nil, Nat.reduceSub, Nat.reduceAdd, Nat.reduceLeDiff, Nat.reduceEqDiff, Nat.reduceLT, Nat.zero_add, Bool.not_true, Bool.not_false, Bool.and_true, Bool.true_and, Bool.and_self, and_true, true_and, if_true, reduceIte, reduceCtorEq, decide_true, decide_false, Bool.false_eq_true, Bool.or_false, Bool.or_true, Bool.false_or, Bool.true_or, Bool.and_false, Bool.false_and, Nat.le_refl, lineN, Nat.one_ne_zero, Nat.zero_ne_one, addD_i, subD_i, negD_i, cmpI_i, eqD_i, neD_i, eqD_s, neD_s, eqD_b, neD_b, isD_n, isD_b, isNotD_n, isNotD_b, isBool_b, isNone_n, isNone_b, isNone_i, isNone_s, isNone_l, isNone_t, isNone_d, isi_eq, lenD_l, lenD_t, absD_n, maxD_m, minD_m, intD_i, listD_l, listD_t, tupleD_l, tupleD_t, isiB, mulSD_i, divD_i, modD_i, powD_i, ixD_l, ixD_t, ixD_s, slD_l, slD_t, slD_s, lenD_s, addD_s, addD_l, addD_t, strD_i, wp_bind, wp_guard, atI_0, atI_1, atI_2, atI_3, atI_4, ixN_0, ixN_1, ixN_2, Int.reduceNeg, Int.reduceSub, Int.reduceAdd, listD_s, tupleD_s, mulSD_s, small64_eq, decide_eq_true_eq, or_true, true_or, Int.reducePow, Int.reduceToNat, Int.reduceLE, Int.reduceLT, Int.reduceMul, Int.reduceEq, Int.zero_add, Nat.reducePow, Nat.reduceMul, Int.reduceAbs, rangeD_1, rangeD_2, rangeD_3, sortedD_l, maxLD_l, minLD_l, sumLD_l, reprD_1, ixD_ds, ixD_di, inD_ds, inD_di, notInD_ds, notInD_di, dictPD_l, intsOf_nil, intsOf_cons, Option.bind_some, List.max?_cons', List.min?_cons', List.foldl_cons, List.foldl_nil, kDictb_s, kDictb_int, Int.cast_ofNat_Int, upperD_eq, cutS_S, S_cps, S_len', SX.S_len, SX.S_cat, S_mk, repS_S, inD_S, notInD_S, signD_S, ixD_S, cutG_none, cutG_but, cutD_G, lit_0, lit_1, lit_2, lit_3, lit_4])
  refine take_ok (by decide) (by decide) fun r1 p2 c2 a1 b1 => ?_
  (try simp only [↓wx_0, ↓wx_s, ↓wv_fz, ↓wv_own, ↓wv_plc, ↓kView_fz, ↓kView_own, ↓kView_ref, ↓kView_rfz, ↓wf_fz, ↓wf_own, ↓wf_plc, ↓kFix_fz, ↓kFix_rfz, ↓kFix_own, ↓kFix_ref, ↓we_lit, ↓we_slot, ↓kSlot_fz, ↓kSlot_rfz, ↓kSlot_own, ↓kSlot_ref, ↓wa_nil, ↓wa_cons, ↓kCons1_eq, ↓kCons2_eq, ↓wvs_nil, ↓wvs_cons, ↓kVs1_eq, ↓kVs2_eq, ↓we_op2, ↓kOp2a_eq, ↓kOp2b_eq, ↓kOp2c_eq, ↓kOp2d_eq, ↓we_op1, ↓kOp1a_eq, ↓kOp1b_eq, ↓we_call, ↓kCalla_eq, ↓kCallb_eq, ↓wt_asT, ↓kAsT_eq, ↓wt_and, ↓wt_or, ↓wt_not, ↓kAnd_t, ↓kAnd_f, ↓kOr_t, ↓kOr_f, ↓kNot_eq, ↓we_eT, ↓kET_eq, ↓we_if, ↓kIfE_t, ↓kIfE_f, ↓we_chain, ↓kCh1_eq, ↓kCh2_eq, ↓kCh3_eq, ↓kCh4_eq, ↓kCh5_t, ↓kCh5_f, ↓wfs_nil, ↓wfs_cons, ↓kFs1_eq, ↓kFs2_eq, ↓we_tup, ↓we_lst, ↓kTup_eq, ↓kTupb_eq, ↓kLst_eq, ↓kLstb_eq, ↓we_dict, ↓kDict_eq, ↓kDictb_nil, ↓we_dictT, ↓kDictT_eq, ↓kDictTb_2, ↓wa_pairs0, ↓wa_pairs, ↓wo_no, ↓wo_sm, ↓kSm_eq, ↓we_sl, ↓kSl1_eq, ↓kSl2_eq, ↓kSl3_eq, ↓kSl4_eq, ↓we_m0, ↓we_m1, ↓kM0_eq, ↓kM1_eq, ↓kM1b_eq, ↓kM1c_eq, ↓wg_slot, ↓kGSlot_eq, ↓wgs_nil, ↓wgs_cons, ↓kGs_eq, ↓wg_unp, ↓wi_any, ↓kIAnyA_eq, ↓kIAny_l, ↓kIAny_t, ↓kIAny_s, ↓wi_r1, ↓wi_r2, ↓kR1_eq, ↓kR2_eq, ↓kR2a_eq, ↓we_lc, ↓kLc_eq, ↓kLcE_eq, ↓kLcF_eq, ↓kLcR_eq, ↓kLcT_eq, ↓kLcB_t, ↓kLcB_f, ↓wt_yes, ↓ws_skip, ↓ws_seq, ↓kSeq_nx, ↓kSeq_rt, ↓kSeq_bk, ↓kSeq_ct, ↓ws_expr, ↓kExpr_eq, ↓ws_set, ↓kSet_eq, ↓kSetL_eq, ↓kSetV_fz, ↓kSetV_own, ↓kSetV_plc, ↓kSetP_own, ↓kSetP_ref, ↓kSetP_fz, ↓ws_asg, ↓kAsg_fz, ↓kAsgB_eq, ↓ws_ret, ↓kRet_fz, ↓kRet_own, ↓kRet_plc, ↓kRetP_own, ↓kRetP_ref, ↓ws_retN, ↓ws_if, ↓kIf_t, ↓kIf_f, ↓ws_brk, ↓ws_cnt, ↓ws_for, ↓kFor_eq, ↓kLoop_nx, ↓kLoop_ct, ↓kLoop_bk, ↓kLoop_rt, ↓kBody_eq, ↓wl_eq, ↓kOwnL_own, ↓kOwnL_ref, ↓ws_setIx, ↓kSI1_eq, ↓kSI2_eq, ↓kSI3_eq, ↓kSI4_eq, ↓kSI5_eq, ↓we_app, ↓kAp0_eq, ↓kAp1_eq, ↓kAp2_eq, ↓kAp3_eq, ↓we_user, ↓kUsr_eq, ↓kUsr1_eq, ↓kUsr2_eq, ↓kUsr3_fz, ↓kUsr3_own, ↓warg_nil, ↓warg_fz, ↓warg_own, ↓warg_plc, ↓kArg1_eq, ↓kArg2_eq, ↓kArgP_own, ↓kArgP_ref, ↓kArgP_fz, ↓kArgP_rfz, ↓wc_run, ↓kRun_rt, ↓kRun_nx, ↓kRunR_fz, ↓kRunR_own, ↓wex_nil, ↓wex_fz, ↓wex_ref, ↓wex_rfz, ↓kEx_eq, ↓we_rev, ↓kRev0_eq, ↓kRev_l, ↓wk_eq, ↓kOwnK_own, ↓kOwnK_ref, ↓ws_setKey, ↓kSK1_eq, ↓kSK2_eq, ↓kSK3_eq, ↓kSK4_s, ↓kSK4_i, ↓kSK5_eq, ↓kSK6_eq, ↓we_get1, ↓kG1_eq, ↓kG2_d, ↓kG3_eq, ↓kG4_d, ↓kG5_s, ↓kG5_i, ↓we_get2, ↓kH1_eq, ↓kH2_d, ↓kH3_eq, ↓kH3b_eq, ↓kH4_d, ↓kH5_s, ↓kH5_i, ↓kWh_t, ↓kWh_f, ↓ws_while, ↓we_ext, ↓kEx0_eq, ↓kEx1_eq, ↓kEx3_eq, ↓kJ_nx, ↓kJ_rt, ↓kJ_bk, ↓kJ_ct, ↓kIs_eq, ↓kIsE_eq, wp_some, backSVs_nil, backSVs_cons, lock_unb, lock_fz, lock_own, plain_fz, plain_own, enter_fz, enter_own, put_ownE, put_refE, back_oo, back_of, back_ro, back_rf, back_fz, back_rfz, freeze_own, freeze_ref, freeze_fz, backAt_eq, findSV_nil, findSV_nil2, findSV_plc, findSV_fz, findSV_own, apart_nil, apart_fz, apart_own, apart_plc, placed_nil, placed_fz, placed_own, placed_plc, wipeE_nil, wipeE_cons, backE_nil, backE_cons, unlocked_nil, unlocked_cons, List.set_cons_zero, List.set_cons_succ, List.getD_cons_zero, List.getD_cons_succ, List.getElem?_cons_zero, List.getElem?_cons_succ, List.map_cons, List.map_nil, List.cons_append, List.nil_append, List.replicate_succ, List.replicate_zero, List.length_cons, List.length_nil, List.all_cons, List.all_nil, Nat.reduceSub, Nat.reduceAdd, Nat.reduceLeDiff, Nat.reduceEqDiff, Nat.reduceLT, Nat.zero_add, Bool.not_true, Bool.not_false, Bool.and_true, Bool.true_and, Bool.and_self, and_true, true_and, if_true, reduceIte, reduceCtorEq, decide_true, decide_false, Bool.false_eq_true, Bool.or_false, Bool.or_true, Bool.false_or, Bool.true_or, Bool.and_false, Bool.false_and, Nat.le_refl, lineN, Nat.one_ne_zero, Nat.zero_ne_one, addD_i, subD_i, negD_i, cmpI_i, eqD_i, neD_i, eqD_s, neD_s, eqD_b, neD_b, isD_n, isD_b, isNotD_n, isNotD_b, isBool_b, isNone_n, isNone_b, isNone_i, isNone_s, isNone_l, isNone_t, isNone_d, isi_eq, lenD_l, lenD_t, absD_n, maxD_m, minD_m, intD_i, listD_l, listD_t, tupleD_l, tupleD_t, isiB, mulSD_i, divD_i, modD_i, powD_i, ixD_l, ixD_t, ixD_s, slD_l, slD_t, slD_s, lenD_s, addD_s, addD_l, addD_t, strD_i, wp_bind, wp_guard, atI_0, atI_1, atI_2, atI_3, atI_4, ixN_0, ixN_1, ixN_2, Int.reduceNeg, Int.reduceSub, Int.reduceAdd, listD_s, tupleD_s, mulSD_s, small64_eq, decide_eq_true_eq, or_true, true_or, Int.reducePow, Int.reduceToNat, Int.reduceLE, Int.reduceLT, Int.reduceMul, Int.reduceEq, Int.zero_add, Nat.reducePow, Nat.reduceMul, Int.reduceAbs, rangeD_1, rangeD_2, rangeD_3, sortedD_l, maxLD_l, minLD_l, sumLD_l, reprD_1, ixD_ds, ixD_di, inD_ds, inD_di, notInD_ds, notInD_di, dictPD_l, intsOf_nil, intsOf_cons, Option.bind_some, List.max?_cons', List.min?_cons', List.foldl_cons, List.foldl_nil, kDictb_s, kDictb_int, Int.cast_ofNat_Int, upperD_eq, cutS_S, S_cps, S_len', SX.S_len, SX.S_cat, S_mk, repS_S, inD_S, notInD_S, signD_S, ixD_S, cutG_none, cutG_but, cutD_G, lit_0, lit_1, lit_2, lit_3, lit_4])
  refine wp_at a1 b1 fun ab hab => ?_
  have hm := List.mem_of_getElem? hab
  simp only [List.mem_cons, List.not_mem_nil, or_false] at hm
  (try simp only [↓wx_0, ↓wx_s, ↓wv_fz, ↓wv_own, ↓wv_plc, ↓kView_fz, ↓kView_own, ↓kView_ref, ↓kView_rfz, ↓wf_fz, ↓wf_own, ↓wf_plc, ↓kFix_fz, ↓kFix_rfz, ↓kFix_own, ↓kFix_ref, ↓we_lit, ↓we_slot, ↓kSlot_fz, ↓kSlot_rfz, ↓kSlot_own, ↓kSlot_ref, ↓wa_nil, ↓wa_cons, ↓kCons1_eq, ↓kCons2_eq, ↓wvs_nil, ↓wvs_cons, ↓kVs1_eq, ↓kVs2_eq, ↓we_op2, ↓kOp2a_eq, ↓kOp2b_eq, ↓kOp2c_eq, ↓kOp2d_eq, ↓we_op1, ↓kOp1a_eq, ↓kOp1b_eq, ↓we_call, ↓kCalla_eq, ↓kCallb_eq, ↓wt_asT, ↓kAsT_eq, ↓wt_and, ↓wt_or, ↓wt_not, ↓kAnd_t, ↓kAnd_f, ↓kOr_t, ↓kOr_f, ↓kNot_eq, ↓we_eT, ↓kET_eq, ↓we_if, ↓kIfE_t, ↓kIfE_f, ↓we_chain, ↓kCh1_eq, ↓kCh2_eq, ↓kCh3_eq, ↓kCh4_eq, ↓kCh5_t, ↓kCh5_f, ↓wfs_nil, ↓wfs_cons, ↓kFs1_eq, ↓kFs2_eq, ↓we_tup, ↓we_lst, ↓kTup_eq, ↓kTupb_eq, ↓kLst_eq, ↓kLstb_eq, ↓we_dict, ↓kDict_eq, ↓kDictb_nil, ↓we_dictT, ↓kDictT_eq, ↓kDictTb_2, ↓wa_pairs0, ↓wa_pairs, ↓wo_no, ↓wo_sm, ↓kSm_eq, ↓we_sl, ↓kSl1_eq, ↓kSl2_eq, ↓kSl3_eq, ↓kSl4_eq, ↓we_m0, ↓we_m1, ↓kM0_eq, ↓kM1_eq, ↓kM1b_eq, ↓kM1c_eq, ↓wg_slot, ↓kGSlot_eq, ↓wgs_nil, ↓wgs_cons, ↓kGs_eq, ↓wg_unp, ↓wi_any, ↓kIAnyA_eq, ↓kIAny_l, ↓kIAny_t, ↓kIAny_s, ↓wi_r1, ↓wi_r2, ↓kR1_eq, ↓kR2_eq, ↓kR2a_eq, ↓we_lc, ↓kLc_eq, ↓kLcE_eq, ↓kLcF_eq, ↓kLcR_eq, ↓kLcT_eq, ↓kLcB_t, ↓kLcB_f, ↓wt_yes, ↓ws_skip, ↓ws_seq, ↓kSeq_nx, ↓kSeq_rt, ↓kSeq_bk, ↓kSeq_ct, ↓ws_expr, ↓kExpr_eq, ↓ws_set, ↓kSet_eq, ↓kSetL_eq, ↓kSetV_fz, ↓kSetV_own, ↓kSetV_plc, ↓kSetP_own, ↓kSetP_ref, ↓kSetP_fz, ↓ws_asg, ↓kAsg_fz, ↓kAsgB_eq, ↓ws_ret, ↓kRet_fz, ↓kRet_own, ↓kRet_plc, ↓kRetP_own, ↓kRetP_ref, ↓ws_retN, ↓ws_if, ↓kIf_t, ↓kIf_f, ↓ws_brk, ↓ws_cnt, ↓ws_for, ↓kFor_eq, ↓kLoop_nx, ↓kLoop_ct, ↓kLoop_bk, ↓kLoop_rt, ↓kBody_eq, ↓wl_eq, ↓kOwnL_own, ↓kOwnL_ref, ↓ws_setIx, ↓kSI1_eq, ↓kSI2_eq, ↓kSI3_eq, ↓kSI4_eq, ↓kSI5_eq, ↓we_app, ↓kAp0_eq, ↓kAp1_eq, ↓kAp2_eq, ↓kAp3_eq, ↓we_user, ↓kUsr_eq, ↓kUsr1_eq, ↓kUsr2_eq, ↓kUsr3_fz, ↓kUsr3_own, ↓warg_nil, ↓warg_fz, ↓warg_own, ↓warg_plc, ↓kArg1_eq, ↓kArg2_eq, ↓kArgP_own, ↓kArgP_ref, ↓kArgP_fz, ↓kArgP_rfz, ↓wc_run, ↓kRun_rt, ↓kRun_nx, ↓kRunR_fz, ↓kRunR_own, ↓wex_nil, ↓wex_fz, ↓wex_ref, ↓wex_rfz, ↓kEx_eq, ↓we_rev, ↓kRev0_eq, ↓kRev_l, ↓wk_eq, ↓kOwnK_own, ↓kOwnK_ref, ↓ws_setKey, ↓kSK1_eq, ↓kSK2_eq, ↓kSK3_eq, ↓kSK4_s, ↓kSK4_i, ↓kSK5_eq, ↓kSK6_eq, ↓we_get1, ↓kG1_eq, ↓kG2_d, ↓kG3_eq, ↓kG4_d, ↓kG5_s, ↓kG5_i, ↓we_get2, ↓kH1_eq, ↓kH2_d, ↓kH3_eq, ↓kH3b_eq, ↓kH4_d, ↓kH5_s, ↓kH5_i, ↓kWh_t, ↓kWh_f, ↓ws_while, ↓we_ext, ↓kEx0_eq, ↓kEx1_eq, ↓kEx3_eq, ↓kJ_nx, ↓kJ_rt, ↓kJ_bk, ↓kJ_ct, ↓kIs_eq, ↓kIsE_eq, wp_some, backSVs_nil, backSVs_cons, lock_unb, lock_fz, lock_own, plain_fz, plain_own, enter_fz, enter_own, put_ownE, put_refE, back_oo, back_of, back_ro, back_rf, back_fz, back_rfz, freeze_own, freeze_ref, freeze_fz, backAt_eq, findSV_nil, findSV_nil2, findSV_plc, findSV_fz, findSV_own, apart_nil, apart_fz, apart_own, apart_plc, placed_nil, placed_fz, placed_own, placed_plc, wipeE_nil, wipeE_cons, backE_nil, backE_cons, unlocked_nil, unlocked_cons, List.set_cons_zero, List.set_cons_succ, List.getD_cons_zero, List.getD_cons_succ, List.getElem?_cons_zero, List.getElem?_cons_succ, List.map_cons, List.map_nil, List.cons_append, List.nil_append, List.replicate_succ, List.replicate_zero, List.length_cons, List.length_nil, List.all_cons, List.all_nil, Nat.reduceSub, Nat.reduceAdd, Nat.reduceLeDiff, Nat.reduceEqDiff, Nat.reduceLT, Nat.zero_add, Bool.not_true, Bool.not_false, Bool.and_true, Bool.true_and, Bool.and_self, and_true, true_and, if_true, reduceIte, reduceCtorEq, decide_true, decide_false, Bool.false_eq_true, Bool.or_false, Bool.or_true, Bool.false_or, Bool.true_or, Bool.and_false, Bool.false_and, Nat.le_refl, lineN, Nat.one_ne_zero, Nat.zero_ne_one, addD_i, subD_i, negD_i, cmpI_i, eqD_i, neD_i, eqD_s, neD_s, eqD_b, neD_b, isD_n, isD_b, isNotD_n, isNotD_b, isBool_b, isNone_n, isNone_b, isNone_i, isNone_s, isNone_l, isNone_t, isNone_d, isi_eq, lenD_l, lenD_t, absD_n, maxD_m, minD_m, intD_i, listD_l, listD_t, tupleD_l, tupleD_t, isiB, mulSD_i, divD_i, modD_i, powD_i, ixD_l, ixD_t, ixD_s, slD_l, slD_t, slD_s, lenD_s, addD_s, addD_l, addD_t, strD_i, wp_bind, wp_guard, atI_0, atI_1, atI_2, atI_3, atI_4, ixN_0, ixN_1, ixN_2, Int.reduceNeg, Int.reduceSub, Int.reduceAdd, listD_s, tupleD_s, mulSD_s, small64_eq, decide_eq_true_eq, or_true, true_or, Int.reducePow, Int.reduceToNat, Int.reduceLE, Int.reduceLT, Int.reduceMul, Int.reduceEq, Int.zero_add, Nat.reducePow, Nat.reduceMul, Int.reduceAbs, rangeD_1, rangeD_2, rangeD_3, sortedD_l, maxLD_l, minLD_l, sumLD_l, reprD_1, ixD_ds, ixD_di, inD_ds, inD_di, notInD_ds, notInD_di, dictPD_l, intsOf_nil, intsOf_cons, Option.bind_some, List.max?_cons', List.min?_cons', List.foldl_cons, List.foldl_nil, kDictb_s, kDictb_int, Int.cast_ofNat_Int, upperD_eq, cutS_S, S_cps, S_len', SX.S_len, SX.S_cat, S_mk, repS_S, inD_S, notInD_S, signD_S, ixD_S, cutG_none, cutG_but, cutD_G, lit_0, lit_1, lit_2, lit_3, lit_4])

  have fx := nrFit hx
  have fy := nrFit hy
  have fu := nrFit hu
  have fv := nrFit hv
  have h0 := h.spot
  have h1 := h.near
  have h2 := h.fine
  have h3 := h.deep
  have h4 := h.wide
  have h5 := h.dict
  have f1 : (u + 1).natAbs < 10 ^ 100 := by unfold nrI at hu; omega
  have f2 : (v + 1).natAbs < 10 ^ 100 := by unfold nrI at hv; omega
  have hz : szT ab ∧ fineD ab ∧ ab.hasDict = false ∧ ab.depth ≤ 1 ∧ wt ab ≤ 220 ∧ leB ab (.tuple [.int u, .int v]) = false := by
    rcases hm with rfl | rfl
    · refine ⟨by simp [szT, lineN], ?_, by simp [PyData.hasDict, PyData.hasDictAll], by simp [PyData.depth, PyData.depthAll], by simp [wt, wtAll], leB_up1 (by omega)⟩
      simp only [fineD, fineAll, f1, fy, and_self]
    · refine ⟨by simp [szT, lineN], ?_, by simp [PyData.hasDict, PyData.hasDictAll], by simp [PyData.depth, PyData.depthAll], by simp [wt, wtAll], leB_up2 (by omega)⟩
      simp only [fineD, fineAll, f2, fx, and_self]
  obtain ⟨zab, fab, gab, dab, wab, eab⟩ := hz
  have zo := h.siz
  have ec : cutG [PyData.int x, PyData.int y] none (some 1) = [PyData.int x] := by rw [cutG_to (by decide)]; rfl
  have en : neD (.tuple [.int x, .int y]) (.tuple [.int u, .int v]) = some (.fz (.bool (!(x == u && y == v)))) := by
    rw [neD_sh rfl rfl]
    simp [PyData.eqv, PyData.eqvAll]
  (try simp only [↓wx_0, ↓wx_s, ↓wv_fz, ↓wv_own, ↓wv_plc, ↓kView_fz, ↓kView_own, ↓kView_ref, ↓kView_rfz, ↓wf_fz, ↓wf_own, ↓wf_plc, ↓kFix_fz, ↓kFix_rfz, ↓kFix_own, ↓kFix_ref, ↓we_lit, ↓we_slot, ↓kSlot_fz, ↓kSlot_rfz, ↓kSlot_own, ↓kSlot_ref, ↓wa_nil, ↓wa_cons, ↓kCons1_eq, ↓kCons2_eq, ↓wvs_nil, ↓wvs_cons, ↓kVs1_eq, ↓kVs2_eq, ↓we_op2, ↓kOp2a_eq, ↓kOp2b_eq, ↓kOp2c_eq, ↓kOp2d_eq, ↓we_op1, ↓kOp1a_eq, ↓kOp1b_eq, ↓we_call, ↓kCalla_eq, ↓kCallb_eq, ↓wt_asT, ↓kAsT_eq, ↓wt_and, ↓wt_or, ↓wt_not, ↓kAnd_t, ↓kAnd_f, ↓kOr_t, ↓kOr_f, ↓kNot_eq, ↓we_eT, ↓kET_eq, ↓we_if, ↓kIfE_t, ↓kIfE_f, ↓we_chain, ↓kCh1_eq, ↓kCh2_eq, ↓kCh3_eq, ↓kCh4_eq, ↓kCh5_t, ↓kCh5_f, ↓wfs_nil, ↓wfs_cons, ↓kFs1_eq, ↓kFs2_eq, ↓we_tup, ↓we_lst, ↓kTup_eq, ↓kTupb_eq, ↓kLst_eq, ↓kLstb_eq, ↓we_dict, ↓kDict_eq, ↓kDictb_nil, ↓we_dictT, ↓kDictT_eq, ↓kDictTb_2, ↓wa_pairs0, ↓wa_pairs, ↓wo_no, ↓wo_sm, ↓kSm_eq, ↓we_sl, ↓kSl1_eq, ↓kSl2_eq, ↓kSl3_eq, ↓kSl4_eq, ↓we_m0, ↓we_m1, ↓kM0_eq, ↓kM1_eq, ↓kM1b_eq, ↓kM1c_eq, ↓wg_slot, ↓kGSlot_eq, ↓wgs_nil, ↓wgs_cons, ↓kGs_eq, ↓wg_unp, ↓wi_any, ↓kIAnyA_eq, ↓kIAny_l, ↓kIAny_t, ↓kIAny_s, ↓wi_r1, ↓wi_r2, ↓kR1_eq, ↓kR2_eq, ↓kR2a_eq, ↓we_lc, ↓kLc_eq, ↓kLcE_eq, ↓kLcF_eq, ↓kLcR_eq, ↓kLcT_eq, ↓kLcB_t, ↓kLcB_f, ↓wt_yes, ↓ws_skip, ↓ws_seq, ↓kSeq_nx, ↓kSeq_rt, ↓kSeq_bk, ↓kSeq_ct, ↓ws_expr, ↓kExpr_eq, ↓ws_set, ↓kSet_eq, ↓kSetL_eq, ↓kSetV_fz, ↓kSetV_own, ↓kSetV_plc, ↓kSetP_own, ↓kSetP_ref, ↓kSetP_fz, ↓ws_asg, ↓kAsg_fz, ↓kAsgB_eq, ↓ws_ret, ↓kRet_fz, ↓kRet_own, ↓kRet_plc, ↓kRetP_own, ↓kRetP_ref, ↓ws_retN, ↓ws_if, ↓kIf_t, ↓kIf_f, ↓ws_brk, ↓ws_cnt, ↓ws_for, ↓kFor_eq, ↓kLoop_nx, ↓kLoop_ct, ↓kLoop_bk, ↓kLoop_rt, ↓kBody_eq, ↓wl_eq, ↓kOwnL_own, ↓kOwnL_ref, ↓ws_setIx, ↓kSI1_eq, ↓kSI2_eq, ↓kSI3_eq, ↓kSI4_eq, ↓kSI5_eq, ↓we_app, ↓kAp0_eq, ↓kAp1_eq, ↓kAp2_eq, ↓kAp3_eq, ↓we_user, ↓kUsr_eq, ↓kUsr1_eq, ↓kUsr2_eq, ↓kUsr3_fz, ↓kUsr3_own, ↓warg_nil, ↓warg_fz, ↓warg_own, ↓warg_plc, ↓kArg1_eq, ↓kArg2_eq, ↓kArgP_own, ↓kArgP_ref, ↓kArgP_fz, ↓kArgP_rfz, ↓wc_run, ↓kRun_rt, ↓kRun_nx, ↓kRunR_fz, ↓kRunR_own, ↓wex_nil, ↓wex_fz, ↓wex_ref, ↓wex_rfz, ↓kEx_eq, ↓we_rev, ↓kRev0_eq, ↓kRev_l, ↓wk_eq, ↓kOwnK_own, ↓kOwnK_ref, ↓ws_setKey, ↓kSK1_eq, ↓kSK2_eq, ↓kSK3_eq, ↓kSK4_s, ↓kSK4_i, ↓kSK5_eq, ↓kSK6_eq, ↓we_get1, ↓kG1_eq, ↓kG2_d, ↓kG3_eq, ↓kG4_d, ↓kG5_s, ↓kG5_i, ↓we_get2, ↓kH1_eq, ↓kH2_d, ↓kH3_eq, ↓kH3b_eq, ↓kH4_d, ↓kH5_s, ↓kH5_i, ↓kWh_t, ↓kWh_f, ↓ws_while, ↓we_ext, ↓kEx0_eq, ↓kEx1_eq, ↓kEx3_eq, ↓kJ_nx, ↓kJ_rt, ↓kJ_bk, ↓kJ_ct, ↓kIs_eq, ↓kIsE_eq, wp_some, backSVs_nil, backSVs_cons, lock_unb, lock_fz, lock_own, plain_fz, plain_own, enter_fz, enter_own, put_ownE, put_refE, back_oo, back_of, back_ro, back_rf, back_fz, back_rfz, freeze_own, freeze_ref, freeze_fz, backAt_eq, findSV_nil, findSV_nil2, findSV_plc, findSV_fz, findSV_own, apart_nil, apart_fz, apart_own, apart_plc, placed_nil, placed_fz, placed_own, placed_plc, wipeE_nil, wipeE_cons, backE_nil, backE_cons, unlocked_nil, unlocked_cons, List.set_cons_zero, List.set_cons_succ, List.getD_cons_zero, List.getD_cons_succ, List.getElem?_cons_zero, List.getElem?_cons_succ, List.map_cons, List.map_nil, List.cons_append, List.nil_append, List.replicate_succ, List.replicate_zero, List.length_cons, List.length_nil, List.all_cons, List.all_nil, Nat.reduceSub, Nat.reduceAdd, Nat.reduceLeDiff, Nat.reduceEqDiff, Nat.reduceLT, Nat.zero_add, Bool.not_true, Bool.not_false, Bool.and_true, Bool.true_and, Bool.and_self, and_true, true_and, if_true, reduceIte, reduceCtorEq, decide_true, decide_false, Bool.false_eq_true, Bool.or_false, Bool.or_true, Bool.false_or, Bool.true_or, Bool.and_false, Bool.false_and, Nat.le_refl, lineN, Nat.one_ne_zero, Nat.zero_ne_one, addD_i, subD_i, negD_i, cmpI_i, eqD_i, neD_i, eqD_s, neD_s, eqD_b, neD_b, isD_n, isD_b, isNotD_n, isNotD_b, isBool_b, isNone_n, isNone_b, isNone_i, isNone_s, isNone_l, isNone_t, isNone_d, isi_eq, lenD_l, lenD_t, absD_n, maxD_m, minD_m, intD_i, listD_l, listD_t, tupleD_l, tupleD_t, isiB, mulSD_i, divD_i, modD_i, powD_i, ixD_l, ixD_t, ixD_s, slD_l, slD_t, slD_s, lenD_s, addD_s, addD_l, addD_t, strD_i, wp_bind, wp_guard, atI_0, atI_1, atI_2, atI_3, atI_4, ixN_0, ixN_1, ixN_2, Int.reduceNeg, Int.reduceSub, Int.reduceAdd, listD_s, tupleD_s, mulSD_s, small64_eq, decide_eq_true_eq, or_true, true_or, Int.reducePow, Int.reduceToNat, Int.reduceLE, Int.reduceLT, Int.reduceMul, Int.reduceEq, Int.zero_add, Nat.reducePow, Nat.reduceMul, Int.reduceAbs, rangeD_1, rangeD_2, rangeD_3, sortedD_l, maxLD_l, minLD_l, sumLD_l, reprD_1, ixD_ds, ixD_di, inD_ds, inD_di, notInD_ds, notInD_di, dictPD_l, intsOf_nil, intsOf_cons, Option.bind_some, List.max?_cons', List.min?_cons', List.foldl_cons, List.foldl_nil, kDictb_s, kDictb_int, Int.cast_ofNat_Int, upperD_eq, cutS_S, S_cps, S_len', SX.S_len, SX.S_cat, S_mk, repS_S, inD_S, notInD_S, signD_S, ixD_S, cutG_none, cutG_but, cutD_G, lit_0, lit_1, lit_2, lit_3, lit_4, en])
  refine kIf_i (fun hc => ?_) fun hc => ?_
  · have eba : leB (.tuple [.int u, .int v]) (.tuple [.int x, .int y]) = false := by
      rw [leB_tt]
      by_cases hq : u ≤ x
      · have : x = u := by omega
        subst this
        by_cases hq2 : v ≤ y
        · have : y = v := by omega
          subst this
          simp at hc
        · rw [decide_eq_false hq2, Bool.and_false]
      · rw [decide_eq_false hq, Bool.false_and]
    (try simp only [↓wx_0, ↓wx_s, ↓wv_fz, ↓wv_own, ↓wv_plc, ↓kView_fz, ↓kView_own, ↓kView_ref, ↓kView_rfz, ↓wf_fz, ↓wf_own, ↓wf_plc, ↓kFix_fz, ↓kFix_rfz, ↓kFix_own, ↓kFix_ref, ↓we_lit, ↓we_slot, ↓kSlot_fz, ↓kSlot_rfz, ↓kSlot_own, ↓kSlot_ref, ↓wa_nil, ↓wa_cons, ↓kCons1_eq, ↓kCons2_eq, ↓wvs_nil, ↓wvs_cons, ↓kVs1_eq, ↓kVs2_eq, ↓we_op2, ↓kOp2a_eq, ↓kOp2b_eq, ↓kOp2c_eq, ↓kOp2d_eq, ↓we_op1, ↓kOp1a_eq, ↓kOp1b_eq, ↓we_call, ↓kCalla_eq, ↓kCallb_eq, ↓wt_asT, ↓kAsT_eq, ↓wt_and, ↓wt_or, ↓wt_not, ↓kAnd_t, ↓kAnd_f, ↓kOr_t, ↓kOr_f, ↓kNot_eq, ↓we_eT, ↓kET_eq, ↓we_if, ↓kIfE_t, ↓kIfE_f, ↓we_chain, ↓kCh1_eq, ↓kCh2_eq, ↓kCh3_eq, ↓kCh4_eq, ↓kCh5_t, ↓kCh5_f, ↓wfs_nil, ↓wfs_cons, ↓kFs1_eq, ↓kFs2_eq, ↓we_tup, ↓we_lst, ↓kTup_eq, ↓kTupb_eq, ↓kLst_eq, ↓kLstb_eq, ↓we_dict, ↓kDict_eq, ↓kDictb_nil, ↓we_dictT, ↓kDictT_eq, ↓kDictTb_2, ↓wa_pairs0, ↓wa_pairs, ↓wo_no, ↓wo_sm, ↓kSm_eq, ↓we_sl, ↓kSl1_eq, ↓kSl2_eq, ↓kSl3_eq, ↓kSl4_eq, ↓we_m0, ↓we_m1, ↓kM0_eq, ↓kM1_eq, ↓kM1b_eq, ↓kM1c_eq, ↓wg_slot, ↓kGSlot_eq, ↓wgs_nil, ↓wgs_cons, ↓kGs_eq, ↓wg_unp, ↓wi_any, ↓kIAnyA_eq, ↓kIAny_l, ↓kIAny_t, ↓kIAny_s, ↓wi_r1, ↓wi_r2, ↓kR1_eq, ↓kR2_eq, ↓kR2a_eq, ↓we_lc, ↓kLc_eq, ↓kLcE_eq, ↓kLcF_eq, ↓kLcR_eq, ↓kLcT_eq, ↓kLcB_t, ↓kLcB_f, ↓wt_yes, ↓ws_skip, ↓ws_seq, ↓kSeq_nx, ↓kSeq_rt, ↓kSeq_bk, ↓kSeq_ct, ↓ws_expr, ↓kExpr_eq, ↓ws_set, ↓kSet_eq, ↓kSetL_eq, ↓kSetV_fz, ↓kSetV_own, ↓kSetV_plc, ↓kSetP_own, ↓kSetP_ref, ↓kSetP_fz, ↓ws_asg, ↓kAsg_fz, ↓kAsgB_eq, ↓ws_ret, ↓kRet_fz, ↓kRet_own, ↓kRet_plc, ↓kRetP_own, ↓kRetP_ref, ↓ws_retN, ↓ws_if, ↓kIf_t, ↓kIf_f, ↓ws_brk, ↓ws_cnt, ↓ws_for, ↓kFor_eq, ↓kLoop_nx, ↓kLoop_ct, ↓kLoop_bk, ↓kLoop_rt, ↓kBody_eq, ↓wl_eq, ↓kOwnL_own, ↓kOwnL_ref, ↓ws_setIx, ↓kSI1_eq, ↓kSI2_eq, ↓kSI3_eq, ↓kSI4_eq, ↓kSI5_eq, ↓we_app, ↓kAp0_eq, ↓kAp1_eq, ↓kAp2_eq, ↓kAp3_eq, ↓we_user, ↓kUsr_eq, ↓kUsr1_eq, ↓kUsr2_eq, ↓kUsr3_fz, ↓kUsr3_own, ↓warg_nil, ↓warg_fz, ↓warg_own, ↓warg_plc, ↓kArg1_eq, ↓kArg2_eq, ↓kArgP_own, ↓kArgP_ref, ↓kArgP_fz, ↓kArgP_rfz, ↓wc_run, ↓kRun_rt, ↓kRun_nx, ↓kRunR_fz, ↓kRunR_own, ↓wex_nil, ↓wex_fz, ↓wex_ref, ↓wex_rfz, ↓kEx_eq, ↓we_rev, ↓kRev0_eq, ↓kRev_l, ↓wk_eq, ↓kOwnK_own, ↓kOwnK_ref, ↓ws_setKey, ↓kSK1_eq, ↓kSK2_eq, ↓kSK3_eq, ↓kSK4_s, ↓kSK4_i, ↓kSK5_eq, ↓kSK6_eq, ↓we_get1, ↓kG1_eq, ↓kG2_d, ↓kG3_eq, ↓kG4_d, ↓kG5_s, ↓kG5_i, ↓we_get2, ↓kH1_eq, ↓kH2_d, ↓kH3_eq, ↓kH3b_eq, ↓kH4_d, ↓kH5_s, ↓kH5_i, ↓kWh_t, ↓kWh_f, ↓ws_while, ↓we_ext, ↓kEx0_eq, ↓kEx1_eq, ↓kEx3_eq, ↓kJ_nx, ↓kJ_rt, ↓kJ_bk, ↓kJ_ct, ↓kIs_eq, ↓kIsE_eq, wp_some, backSVs_nil, backSVs_cons, lock_unb, lock_fz, lock_own, plain_fz, plain_own, enter_fz, enter_own, put_ownE, put_refE, back_oo, back_of, back_ro, back_rf, back_fz, back_rfz, freeze_own, freeze_ref, freeze_fz, backAt_eq, findSV_nil, findSV_nil2, findSV_plc, findSV_fz, findSV_own, apart_nil, apart_fz, apart_own, apart_plc, placed_nil, placed_fz, placed_own, placed_plc, wipeE_nil, wipeE_cons, backE_nil, backE_cons, unlocked_nil, unlocked_cons, List.set_cons_zero, List.set_cons_succ, List.getD_cons_zero, List.getD_cons_succ, List.getElem?_cons_zero, List.getElem?_cons_succ, List.map_cons, List.map_nil, List.cons_append, List.nil_append, List.replicate_succ, List.replicate_zero, List.length_cons, List.length_nil, List.all_cons, List.all_nil, Nat.reduceSub, Nat.reduceAdd, Nat.reduceLeDiff, Nat.reduceEqDiff, Nat.reduceLT, Nat.zero_add, Bool.not_true, Bool.not_false, Bool.and_true, Bool.true_and, Bool.and_self, and_true, true_and, if_true, reduceIte, reduceCtorEq, decide_true, decide_false, Bool.false_eq_true, Bool.or_false, Bool.or_true, Bool.false_or, Bool.true_or, Bool.and_false, Bool.false_and, Nat.le_refl, lineN, Nat.one_ne_zero, Nat.zero_ne_one, addD_i, subD_i, negD_i, cmpI_i, eqD_i, neD_i, eqD_s, neD_s, eqD_b, neD_b, isD_n, isD_b, isNotD_n, isNotD_b, isBool_b, isNone_n, isNone_b, isNone_i, isNone_s, isNone_l, isNone_t, isNone_d, isi_eq, lenD_l, lenD_t, absD_n, maxD_m, minD_m, intD_i, listD_l, listD_t, tupleD_l, tupleD_t, isiB, mulSD_i, divD_i, modD_i, powD_i, ixD_l, ixD_t, ixD_s, slD_l, slD_t, slD_s, lenD_s, addD_s, addD_l, addD_t, strD_i, wp_bind, wp_guard, atI_0, atI_1, atI_2, atI_3, atI_4, ixN_0, ixN_1, ixN_2, Int.reduceNeg, Int.reduceSub, Int.reduceAdd, listD_s, tupleD_s, mulSD_s, small64_eq, decide_eq_true_eq, or_true, true_or, Int.reducePow, Int.reduceToNat, Int.reduceLE, Int.reduceLT, Int.reduceMul, Int.reduceEq, Int.zero_add, Nat.reducePow, Nat.reduceMul, Int.reduceAbs, rangeD_1, rangeD_2, rangeD_3, sortedD_l, maxLD_l, minLD_l, sumLD_l, reprD_1, ixD_ds, ixD_di, inD_ds, inD_di, notInD_ds, notInD_di, dictPD_l, intsOf_nil, intsOf_cons, Option.bind_some, List.max?_cons', List.min?_cons', List.foldl_cons, List.foldl_nil, kDictb_s, kDictb_int, Int.cast_ofNat_Int, upperD_eq, cutS_S, S_cps, S_len', SX.S_len, SX.S_cat, S_mk, repS_S, inD_S, notInD_S, signD_S, ixD_S, cutG_none, cutG_but, cutD_G, lit_0, lit_1, lit_2, lit_3, lit_4])
    refine k _ _ _ fun d hd => ?_
    clear hab hm
    simp only [ec, List.mem_cons, List.not_mem_nil, or_false] at hd
    rcases hd with rfl | rfl | rfl | rfl | rfl | rfl | rfl | rfl | rfl | rfl | rfl | rfl | rfl | rfl | rfl | rfl | rfl | rfl | rfl | rfl | rfl | rfl | rfl | rfl | rfl | rfl | rfl | rfl | rfl
    all_goals refine ⟨?_, ?_, ?_, ?_, ?_, ?_⟩
    all_goals first
      | (simp [szB, szT, lineN]; done)
      | exact ⟨by simp [lineN], fun w hw => by
          simp only [List.mem_cons, List.not_mem_nil, or_false] at hw
          rcases hw with rfl | rfl <;> first | exact zab | exact zo | (simp [szT, lineN]; done)⟩
      | (simp only [boxB_2, spotB_2, spotB_t, spotB_0, spotB_1, spotB_3, spotB_l, spotB_i, h0, h1, nearB_t, eab, eba, Bool.and_false, Bool.false_and]; done)
      | exact boxB_0
      | exact boxB_1
      | exact boxB_3
      | (refine boxB_n ?_; intro l z; cases z; done)
      | (simp only [fineD, fineAll, fineKv, fx, fy, fu, fv, f1, f2, h2, fab, and_self, true_and, and_true]; done)
      | (simp [PyData.hasDict, PyData.hasDictAll, listFree, listFreeKv, listFreeAll]; done)
      | (simp [PyData.hasDict, PyData.hasDictAll, listFree, listFreeKv, listFreeAll, gab]; done)
      | (simp [PyData.hasDict, PyData.hasDictAll, listFree, listFreeKv, listFreeAll]; exact h5)
      | (simp [PyData.depth, PyData.depthAll, PyData.depthKv]; done)
      | (simp [PyData.depth, PyData.depthAll, PyData.depthKv]; omega)
      | (simp [wt, wtAll, wtKv, SX.S_len, lineN]; done)
      | (simp [wt, wtAll, wtKv, SX.S_len, lineN]; omega)
      | (simp only [fineD, fineAll, fineKv, fx, fy, fu, fv, and_self, true_and, and_true]; decide)
      | (simp only [fineD, fineAll, fineKv, fx, fy, fu, fv, S_cps, and_self, true_and, and_true]; decide)
  · have eba : True := trivial
    (try simp only [↓wx_0, ↓wx_s, ↓wv_fz, ↓wv_own, ↓wv_plc, ↓kView_fz, ↓kView_own, ↓kView_ref, ↓kView_rfz, ↓wf_fz, ↓wf_own, ↓wf_plc, ↓kFix_fz, ↓kFix_rfz, ↓kFix_own, ↓kFix_ref, ↓we_lit, ↓we_slot, ↓kSlot_fz, ↓kSlot_rfz, ↓kSlot_own, ↓kSlot_ref, ↓wa_nil, ↓wa_cons, ↓kCons1_eq, ↓kCons2_eq, ↓wvs_nil, ↓wvs_cons, ↓kVs1_eq, ↓kVs2_eq, ↓we_op2, ↓kOp2a_eq, ↓kOp2b_eq, ↓kOp2c_eq, ↓kOp2d_eq, ↓we_op1, ↓kOp1a_eq, ↓kOp1b_eq, ↓we_call, ↓kCalla_eq, ↓kCallb_eq, ↓wt_asT, ↓kAsT_eq, ↓wt_and, ↓wt_or, ↓wt_not, ↓kAnd_t, ↓kAnd_f, ↓kOr_t, ↓kOr_f, ↓kNot_eq, ↓we_eT, ↓kET_eq, ↓we_if, ↓kIfE_t, ↓kIfE_f, ↓we_chain, ↓kCh1_eq, ↓kCh2_eq, ↓kCh3_eq, ↓kCh4_eq, ↓kCh5_t, ↓kCh5_f, ↓wfs_nil, ↓wfs_cons, ↓kFs1_eq, ↓kFs2_eq, ↓we_tup, ↓we_lst, ↓kTup_eq, ↓kTupb_eq, ↓kLst_eq, ↓kLstb_eq, ↓we_dict, ↓kDict_eq, ↓kDictb_nil, ↓we_dictT, ↓kDictT_eq, ↓kDictTb_2, ↓wa_pairs0, ↓wa_pairs, ↓wo_no, ↓wo_sm, ↓kSm_eq, ↓we_sl, ↓kSl1_eq, ↓kSl2_eq, ↓kSl3_eq, ↓kSl4_eq, ↓we_m0, ↓we_m1, ↓kM0_eq, ↓kM1_eq, ↓kM1b_eq, ↓kM1c_eq, ↓wg_slot, ↓kGSlot_eq, ↓wgs_nil, ↓wgs_cons, ↓kGs_eq, ↓wg_unp, ↓wi_any, ↓kIAnyA_eq, ↓kIAny_l, ↓kIAny_t, ↓kIAny_s, ↓wi_r1, ↓wi_r2, ↓kR1_eq, ↓kR2_eq, ↓kR2a_eq, ↓we_lc, ↓kLc_eq, ↓kLcE_eq, ↓kLcF_eq, ↓kLcR_eq, ↓kLcT_eq, ↓kLcB_t, ↓kLcB_f, ↓wt_yes, ↓ws_skip, ↓ws_seq, ↓kSeq_nx, ↓kSeq_rt, ↓kSeq_bk, ↓kSeq_ct, ↓ws_expr, ↓kExpr_eq, ↓ws_set, ↓kSet_eq, ↓kSetL_eq, ↓kSetV_fz, ↓kSetV_own, ↓kSetV_plc, ↓kSetP_own, ↓kSetP_ref, ↓kSetP_fz, ↓ws_asg, ↓kAsg_fz, ↓kAsgB_eq, ↓ws_ret, ↓kRet_fz, ↓kRet_own, ↓kRet_plc, ↓kRetP_own, ↓kRetP_ref, ↓ws_retN, ↓ws_if, ↓kIf_t, ↓kIf_f, ↓ws_brk, ↓ws_cnt, ↓ws_for, ↓kFor_eq, ↓kLoop_nx, ↓kLoop_ct, ↓kLoop_bk, ↓kLoop_rt, ↓kBody_eq, ↓wl_eq, ↓kOwnL_own, ↓kOwnL_ref, ↓ws_setIx, ↓kSI1_eq, ↓kSI2_eq, ↓kSI3_eq, ↓kSI4_eq, ↓kSI5_eq, ↓we_app, ↓kAp0_eq, ↓kAp1_eq, ↓kAp2_eq, ↓kAp3_eq, ↓we_user, ↓kUsr_eq, ↓kUsr1_eq, ↓kUsr2_eq, ↓kUsr3_fz, ↓kUsr3_own, ↓warg_nil, ↓warg_fz, ↓warg_own, ↓warg_plc, ↓kArg1_eq, ↓kArg2_eq, ↓kArgP_own, ↓kArgP_ref, ↓kArgP_fz, ↓kArgP_rfz, ↓wc_run, ↓kRun_rt, ↓kRun_nx, ↓kRunR_fz, ↓kRunR_own, ↓wex_nil, ↓wex_fz, ↓wex_ref, ↓wex_rfz, ↓kEx_eq, ↓we_rev, ↓kRev0_eq, ↓kRev_l, ↓wk_eq, ↓kOwnK_own, ↓kOwnK_ref, ↓ws_setKey, ↓kSK1_eq, ↓kSK2_eq, ↓kSK3_eq, ↓kSK4_s, ↓kSK4_i, ↓kSK5_eq, ↓kSK6_eq, ↓we_get1, ↓kG1_eq, ↓kG2_d, ↓kG3_eq, ↓kG4_d, ↓kG5_s, ↓kG5_i, ↓we_get2, ↓kH1_eq, ↓kH2_d, ↓kH3_eq, ↓kH3b_eq, ↓kH4_d, ↓kH5_s, ↓kH5_i, ↓kWh_t, ↓kWh_f, ↓ws_while, ↓we_ext, ↓kEx0_eq, ↓kEx1_eq, ↓kEx3_eq, ↓kJ_nx, ↓kJ_rt, ↓kJ_bk, ↓kJ_ct, ↓kIs_eq, ↓kIsE_eq, wp_some, backSVs_nil, backSVs_cons, lock_unb, lock_fz, lock_own, plain_fz, plain_own, enter_fz, enter_own, put_ownE, put_refE, back_oo, back_of, back_ro, back_rf, back_fz, back_rfz, freeze_own, freeze_ref, freeze_fz, backAt_eq, findSV_nil, findSV_nil2, findSV_plc, findSV_fz, findSV_own, apart_nil, apart_fz, apart_own, apart_plc, placed_nil, placed_fz, placed_own, placed_plc, wipeE_nil, wipeE_cons, backE_nil, backE_cons, unlocked_nil, unlocked_cons, List.set_cons_zero, List.set_cons_succ, List.getD_cons_zero, List.getD_cons_succ, List.getElem?_cons_zero, List.getElem?_cons_succ, List.map_cons, List.map_nil, List.cons_append, List.nil_append, List.replicate_succ, List.replicate_zero, List.length_cons, List.length_nil, List.all_cons, List.all_nil, Nat.reduceSub, Nat.reduceAdd, Nat.reduceLeDiff, Nat.reduceEqDiff, Nat.reduceLT, Nat.zero_add, Bool.not_true, Bool.not_false, Bool.and_true, Bool.true_and, Bool.and_self, and_true, true_and, if_true, reduceIte, reduceCtorEq, decide_true, decide_false, Bool.false_eq_true, Bool.or_false, Bool.or_true, Bool.false_or, Bool.true_or, Bool.and_false, Bool.false_and, Nat.le_refl, lineN, Nat.one_ne_zero, Nat.zero_ne_one, addD_i, subD_i, negD_i, cmpI_i, eqD_i, neD_i, eqD_s, neD_s, eqD_b, neD_b, isD_n, isD_b, isNotD_n, isNotD_b, isBool_b, isNone_n, isNone_b, isNone_i, isNone_s, isNone_l, isNone_t, isNone_d, isi_eq, lenD_l, lenD_t, absD_n, maxD_m, minD_m, intD_i, listD_l, listD_t, tupleD_l, tupleD_t, isiB, mulSD_i, divD_i, modD_i, powD_i, ixD_l, ixD_t, ixD_s, slD_l, slD_t, slD_s, lenD_s, addD_s, addD_l, addD_t, strD_i, wp_bind, wp_guard, atI_0, atI_1, atI_2, atI_3, atI_4, ixN_0, ixN_1, ixN_2, Int.reduceNeg, Int.reduceSub, Int.reduceAdd, listD_s, tupleD_s, mulSD_s, small64_eq, decide_eq_true_eq, or_true, true_or, Int.reducePow, Int.reduceToNat, Int.reduceLE, Int.reduceLT, Int.reduceMul, Int.reduceEq, Int.zero_add, Nat.reducePow, Nat.reduceMul, Int.reduceAbs, rangeD_1, rangeD_2, rangeD_3, sortedD_l, maxLD_l, minLD_l, sumLD_l, reprD_1, ixD_ds, ixD_di, inD_ds, inD_di, notInD_ds, notInD_di, dictPD_l, intsOf_nil, intsOf_cons, Option.bind_some, List.max?_cons', List.min?_cons', List.foldl_cons, List.foldl_nil, kDictb_s, kDictb_int, Int.cast_ofNat_Int, upperD_eq, cutS_S, S_cps, S_len', SX.S_len, SX.S_cat, S_mk, repS_S, inD_S, notInD_S, signD_S, ixD_S, cutG_none, cutG_but, cutD_G, lit_0, lit_1, lit_2, lit_3, lit_4])
    refine k _ _ _ fun d hd => ?_
    clear hab hm
    simp only [ec, List.mem_cons, List.not_mem_nil, or_false] at hd
    rcases hd with rfl | rfl | rfl | rfl | rfl | rfl | rfl | rfl | rfl | rfl | rfl | rfl | rfl | rfl | rfl | rfl | rfl | rfl | rfl | rfl | rfl | rfl | rfl | rfl | rfl | rfl | rfl | rfl
    all_goals refine ⟨?_, ?_, ?_, ?_, ?_, ?_⟩
    all_goals first
      | (simp [szB, szT, lineN]; done)
      | exact ⟨by simp [lineN], fun w hw => by
          simp only [List.mem_cons, List.not_mem_nil, or_false] at hw
          rcases hw with rfl | rfl <;> first | exact zab | exact zo | (simp [szT, lineN]; done)⟩
      | (simp only [boxB_2, spotB_2, spotB_t, spotB_0, spotB_1, spotB_3, spotB_l, spotB_i, h0, h1, nearB_t, eab, eba, Bool.and_false, Bool.false_and]; done)
      | exact boxB_0
      | exact boxB_1
      | exact boxB_3
      | (refine boxB_n ?_; intro l z; cases z; done)
      | (simp only [fineD, fineAll, fineKv, fx, fy, fu, fv, f1, f2, h2, fab, and_self, true_and, and_true]; done)
      | (simp [PyData.hasDict, PyData.hasDictAll, listFree, listFreeKv, listFreeAll]; done)
      | (simp [PyData.hasDict, PyData.hasDictAll, listFree, listFreeKv, listFreeAll, gab]; done)
      | (simp [PyData.hasDict, PyData.hasDictAll, listFree, listFreeKv, listFreeAll]; exact h5)
      | (simp [PyData.depth, PyData.depthAll, PyData.depthKv]; done)
      | (simp [PyData.depth, PyData.depthAll, PyData.depthKv]; omega)
      | (simp [wt, wtAll, wtKv, SX.S_len, lineN]; done)
      | (simp [wt, wtAll, wtKv, SX.S_len, lineN]; omega)
      | (simp only [fineD, fineAll, fineKv, fx, fy, fu, fv, and_self, true_and, and_true]; decide)
      | (simp only [fineD, fineAll, fineKv, fx, fy, fu, fv, S_cps, and_self, true_and, and_true]; decide)

-- LITS: lit_0 lit_1 lit_2 lit_3 lit_4
theorem main (ns : List Int) (hl : ns.length ≤ 63) : ∃ bs, c_law [.fz (.list (ns.map PyData.int))] = some (bs, .fz (.bool true)) := by
  have h : WC c_law [.fz (.list (ns.map PyData.int))] fun _ r => r = .fz (.bool true) := by
    unfold c_law b_law
    (try simp only [↓wx_0, ↓wx_s, ↓wv_fz, ↓wv_own, ↓wv_plc, ↓kView_fz, ↓kView_own, ↓kView_ref, ↓kView_rfz, ↓wf_fz, ↓wf_own, ↓wf_plc, ↓kFix_fz, ↓kFix_rfz, ↓kFix_own, ↓kFix_ref, ↓we_lit, ↓we_slot, ↓kSlot_fz, ↓kSlot_rfz, ↓kSlot_own, ↓kSlot_ref, ↓wa_nil, ↓wa_cons, ↓kCons1_eq, ↓kCons2_eq, ↓wvs_nil, ↓wvs_cons, ↓kVs1_eq, ↓kVs2_eq, ↓we_op2, ↓kOp2a_eq, ↓kOp2b_eq, ↓kOp2c_eq, ↓kOp2d_eq, ↓we_op1, ↓kOp1a_eq, ↓kOp1b_eq, ↓we_call, ↓kCalla_eq, ↓kCallb_eq, ↓wt_asT, ↓kAsT_eq, ↓wt_and, ↓wt_or, ↓wt_not, ↓kAnd_t, ↓kAnd_f, ↓kOr_t, ↓kOr_f, ↓kNot_eq, ↓we_eT, ↓kET_eq, ↓we_if, ↓kIfE_t, ↓kIfE_f, ↓we_chain, ↓kCh1_eq, ↓kCh2_eq, ↓kCh3_eq, ↓kCh4_eq, ↓kCh5_t, ↓kCh5_f, ↓wfs_nil, ↓wfs_cons, ↓kFs1_eq, ↓kFs2_eq, ↓we_tup, ↓we_lst, ↓kTup_eq, ↓kTupb_eq, ↓kLst_eq, ↓kLstb_eq, ↓we_dict, ↓kDict_eq, ↓kDictb_nil, ↓we_dictT, ↓kDictT_eq, ↓kDictTb_2, ↓wa_pairs0, ↓wa_pairs, ↓wo_no, ↓wo_sm, ↓kSm_eq, ↓we_sl, ↓kSl1_eq, ↓kSl2_eq, ↓kSl3_eq, ↓kSl4_eq, ↓we_m0, ↓we_m1, ↓kM0_eq, ↓kM1_eq, ↓kM1b_eq, ↓kM1c_eq, ↓wg_slot, ↓kGSlot_eq, ↓wgs_nil, ↓wgs_cons, ↓kGs_eq, ↓wg_unp, ↓wi_any, ↓kIAnyA_eq, ↓kIAny_l, ↓kIAny_t, ↓kIAny_s, ↓wi_r1, ↓wi_r2, ↓kR1_eq, ↓kR2_eq, ↓kR2a_eq, ↓we_lc, ↓kLc_eq, ↓kLcE_eq, ↓kLcF_eq, ↓kLcR_eq, ↓kLcT_eq, ↓kLcB_t, ↓kLcB_f, ↓wt_yes, ↓ws_skip, ↓ws_seq, ↓kSeq_nx, ↓kSeq_rt, ↓kSeq_bk, ↓kSeq_ct, ↓ws_expr, ↓kExpr_eq, ↓ws_set, ↓kSet_eq, ↓kSetL_eq, ↓kSetV_fz, ↓kSetV_own, ↓kSetV_plc, ↓kSetP_own, ↓kSetP_ref, ↓kSetP_fz, ↓ws_asg, ↓kAsg_fz, ↓kAsgB_eq, ↓ws_ret, ↓kRet_fz, ↓kRet_own, ↓kRet_plc, ↓kRetP_own, ↓kRetP_ref, ↓ws_retN, ↓ws_if, ↓kIf_t, ↓kIf_f, ↓ws_brk, ↓ws_cnt, ↓ws_for, ↓kFor_eq, ↓kLoop_nx, ↓kLoop_ct, ↓kLoop_bk, ↓kLoop_rt, ↓kBody_eq, ↓wl_eq, ↓kOwnL_own, ↓kOwnL_ref, ↓ws_setIx, ↓kSI1_eq, ↓kSI2_eq, ↓kSI3_eq, ↓kSI4_eq, ↓kSI5_eq, ↓we_app, ↓kAp0_eq, ↓kAp1_eq, ↓kAp2_eq, ↓kAp3_eq, ↓we_user, ↓kUsr_eq, ↓kUsr1_eq, ↓kUsr2_eq, ↓kUsr3_fz, ↓kUsr3_own, ↓warg_nil, ↓warg_fz, ↓warg_own, ↓warg_plc, ↓kArg1_eq, ↓kArg2_eq, ↓kArgP_own, ↓kArgP_ref, ↓kArgP_fz, ↓kArgP_rfz, ↓wc_run, ↓kRun_rt, ↓kRun_nx, ↓kRunR_fz, ↓kRunR_own, ↓wex_nil, ↓wex_fz, ↓wex_ref, ↓wex_rfz, ↓kEx_eq, ↓we_rev, ↓kRev0_eq, ↓kRev_l, ↓wk_eq, ↓kOwnK_own, ↓kOwnK_ref, ↓ws_setKey, ↓kSK1_eq, ↓kSK2_eq, ↓kSK3_eq, ↓kSK4_s, ↓kSK4_i, ↓kSK5_eq, ↓kSK6_eq, ↓we_get1, ↓kG1_eq, ↓kG2_d, ↓kG3_eq, ↓kG4_d, ↓kG5_s, ↓kG5_i, ↓we_get2, ↓kH1_eq, ↓kH2_d, ↓kH3_eq, ↓kH3b_eq, ↓kH4_d, ↓kH5_s, ↓kH5_i, ↓kWh_t, ↓kWh_f, ↓ws_while, ↓we_ext, ↓kEx0_eq, ↓kEx1_eq, ↓kEx3_eq, ↓kJ_nx, ↓kJ_rt, ↓kJ_bk, ↓kJ_ct, ↓kIs_eq, ↓kIsE_eq, wp_some, backSVs_nil, backSVs_cons, lock_unb, lock_fz, lock_own, plain_fz, plain_own, enter_fz, enter_own, put_ownE, put_refE, back_oo, back_of, back_ro, back_rf, back_fz, back_rfz, freeze_own, freeze_ref, freeze_fz, backAt_eq, findSV_nil, findSV_nil2, findSV_plc, findSV_fz, findSV_own, apart_nil, apart_fz, apart_own, apart_plc, placed_nil, placed_fz, placed_own, placed_plc, wipeE_nil, wipeE_cons, backE_nil, backE_cons, unlocked_nil, unlocked_cons, List.set_cons_zero, List.set_cons_succ, List.getD_cons_zero, List.getD_cons_succ, List.getElem?_cons_zero, List.getElem?_cons_succ, List.map_cons, List.map_nil, List.cons_append, List.nil_append, List.replicate_succ, List.replicate_zero, List.length_cons, List.length_nil, List.all_cons, List.all_nil, Nat.reduceSub, Nat.reduceAdd, Nat.reduceLeDiff, Nat.reduceEqDiff, Nat.reduceLT, Nat.zero_add, Bool.not_true, Bool.not_false, Bool.and_true, Bool.true_and, Bool.and_self, and_true, true_and, if_true, reduceIte, reduceCtorEq, decide_true, decide_false, Bool.false_eq_true, Bool.or_false, Bool.or_true, Bool.false_or, Bool.true_or, Bool.and_false, Bool.false_and, Nat.le_refl, lineN, Nat.one_ne_zero, Nat.zero_ne_one, addD_i, subD_i, negD_i, cmpI_i, eqD_i, neD_i, eqD_s, neD_s, eqD_b, neD_b, isD_n, isD_b, isNotD_n, isNotD_b, isBool_b, isNone_n, isNone_b, isNone_i, isNone_s, isNone_l, isNone_t, isNone_d, isi_eq, lenD_l, lenD_t, absD_n, maxD_m, minD_m, intD_i, listD_l, listD_t, tupleD_l, tupleD_t, isiB, mulSD_i, divD_i, modD_i, powD_i, ixD_l, ixD_t, ixD_s, slD_l, slD_t, slD_s, lenD_s, addD_s, addD_l, addD_t, strD_i, wp_bind, wp_guard, atI_0, atI_1, atI_2, atI_3, atI_4, ixN_0, ixN_1, ixN_2, Int.reduceNeg, Int.reduceSub, Int.reduceAdd, listD_s, tupleD_s, mulSD_s, small64_eq, decide_eq_true_eq, or_true, true_or, Int.reducePow, Int.reduceToNat, Int.reduceLE, Int.reduceLT, Int.reduceMul, Int.reduceEq, Int.zero_add, Nat.reducePow, Nat.reduceMul, Int.reduceAbs, rangeD_1, rangeD_2, rangeD_3, sortedD_l, maxLD_l, minLD_l, sumLD_l, reprD_1, ixD_ds, ixD_di, inD_ds, inD_di, notInD_ds, notInD_di, dictPD_l, intsOf_nil, intsOf_cons, Option.bind_some, List.max?_cons', List.min?_cons', List.foldl_cons, List.foldl_nil, kDictb_s, kDictb_int, Int.cast_ofNat_Int, upperD_eq, cutS_S, S_cps, S_len', SX.S_len, SX.S_cat, S_mk, repS_S, inD_S, notInD_S, signD_S, ixD_S, cutG_none, cutG_but, cutD_G, lit_0, lit_1, lit_2, lit_3, lit_4])
    refine wfor_all (fun e => ∃ (p c : Int) (s2 s3 s4 s5 s6 : SV), (s2.lock = false ∧ s3.lock = false ∧ s4.lock = false ∧ s5.lock = false ∧ s6.lock = false) ∧
      e = [.fz (.list (ns.map PyData.int)), .own (penD ns p c), s2, s3, s4, s5, s6]) ⟨0, 0, _, _, _, _, _, ⟨rfl, rfl, rfl, rfl, rfl⟩, rfl⟩ (fun d hd e he => ?_) fun e he => ?_
    · obtain ⟨p, c, s2, s3, s4, s5, s6, ⟨h2, h3, h4, h5, h6⟩, rfl⟩ := he
      (try simp only [↓wx_0, ↓wx_s, ↓wv_fz, ↓wv_own, ↓wv_plc, ↓kView_fz, ↓kView_own, ↓kView_ref, ↓kView_rfz, ↓wf_fz, ↓wf_own, ↓wf_plc, ↓kFix_fz, ↓kFix_rfz, ↓kFix_own, ↓kFix_ref, ↓we_lit, ↓we_slot, ↓kSlot_fz, ↓kSlot_rfz, ↓kSlot_own, ↓kSlot_ref, ↓wa_nil, ↓wa_cons, ↓kCons1_eq, ↓kCons2_eq, ↓wvs_nil, ↓wvs_cons, ↓kVs1_eq, ↓kVs2_eq, ↓we_op2, ↓kOp2a_eq, ↓kOp2b_eq, ↓kOp2c_eq, ↓kOp2d_eq, ↓we_op1, ↓kOp1a_eq, ↓kOp1b_eq, ↓we_call, ↓kCalla_eq, ↓kCallb_eq, ↓wt_asT, ↓kAsT_eq, ↓wt_and, ↓wt_or, ↓wt_not, ↓kAnd_t, ↓kAnd_f, ↓kOr_t, ↓kOr_f, ↓kNot_eq, ↓we_eT, ↓kET_eq, ↓we_if, ↓kIfE_t, ↓kIfE_f, ↓we_chain, ↓kCh1_eq, ↓kCh2_eq, ↓kCh3_eq, ↓kCh4_eq, ↓kCh5_t, ↓kCh5_f, ↓wfs_nil, ↓wfs_cons, ↓kFs1_eq, ↓kFs2_eq, ↓we_tup, ↓we_lst, ↓kTup_eq, ↓kTupb_eq, ↓kLst_eq, ↓kLstb_eq, ↓we_dict, ↓kDict_eq, ↓kDictb_nil, ↓we_dictT, ↓kDictT_eq, ↓kDictTb_2, ↓wa_pairs0, ↓wa_pairs, ↓wo_no, ↓wo_sm, ↓kSm_eq, ↓we_sl, ↓kSl1_eq, ↓kSl2_eq, ↓kSl3_eq, ↓kSl4_eq, ↓we_m0, ↓we_m1, ↓kM0_eq, ↓kM1_eq, ↓kM1b_eq, ↓kM1c_eq, ↓wg_slot, ↓kGSlot_eq, ↓wgs_nil, ↓wgs_cons, ↓kGs_eq, ↓wg_unp, ↓wi_any, ↓kIAnyA_eq, ↓kIAny_l, ↓kIAny_t, ↓kIAny_s, ↓wi_r1, ↓wi_r2, ↓kR1_eq, ↓kR2_eq, ↓kR2a_eq, ↓we_lc, ↓kLc_eq, ↓kLcE_eq, ↓kLcF_eq, ↓kLcR_eq, ↓kLcT_eq, ↓kLcB_t, ↓kLcB_f, ↓wt_yes, ↓ws_skip, ↓ws_seq, ↓kSeq_nx, ↓kSeq_rt, ↓kSeq_bk, ↓kSeq_ct, ↓ws_expr, ↓kExpr_eq, ↓ws_set, ↓kSet_eq, ↓kSetL_eq, ↓kSetV_fz, ↓kSetV_own, ↓kSetV_plc, ↓kSetP_own, ↓kSetP_ref, ↓kSetP_fz, ↓ws_asg, ↓kAsg_fz, ↓kAsgB_eq, ↓ws_ret, ↓kRet_fz, ↓kRet_own, ↓kRet_plc, ↓kRetP_own, ↓kRetP_ref, ↓ws_retN, ↓ws_if, ↓kIf_t, ↓kIf_f, ↓ws_brk, ↓ws_cnt, ↓ws_for, ↓kFor_eq, ↓kLoop_nx, ↓kLoop_ct, ↓kLoop_bk, ↓kLoop_rt, ↓kBody_eq, ↓wl_eq, ↓kOwnL_own, ↓kOwnL_ref, ↓ws_setIx, ↓kSI1_eq, ↓kSI2_eq, ↓kSI3_eq, ↓kSI4_eq, ↓kSI5_eq, ↓we_app, ↓kAp0_eq, ↓kAp1_eq, ↓kAp2_eq, ↓kAp3_eq, ↓we_user, ↓kUsr_eq, ↓kUsr1_eq, ↓kUsr2_eq, ↓kUsr3_fz, ↓kUsr3_own, ↓warg_nil, ↓warg_fz, ↓warg_own, ↓warg_plc, ↓kArg1_eq, ↓kArg2_eq, ↓kArgP_own, ↓kArgP_ref, ↓kArgP_fz, ↓kArgP_rfz, ↓wc_run, ↓kRun_rt, ↓kRun_nx, ↓kRunR_fz, ↓kRunR_own, ↓wex_nil, ↓wex_fz, ↓wex_ref, ↓wex_rfz, ↓kEx_eq, ↓we_rev, ↓kRev0_eq, ↓kRev_l, ↓wk_eq, ↓kOwnK_own, ↓kOwnK_ref, ↓ws_setKey, ↓kSK1_eq, ↓kSK2_eq, ↓kSK3_eq, ↓kSK4_s, ↓kSK4_i, ↓kSK5_eq, ↓kSK6_eq, ↓we_get1, ↓kG1_eq, ↓kG2_d, ↓kG3_eq, ↓kG4_d, ↓kG5_s, ↓kG5_i, ↓we_get2, ↓kH1_eq, ↓kH2_d, ↓kH3_eq, ↓kH3b_eq, ↓kH4_d, ↓kH5_s, ↓kH5_i, ↓kWh_t, ↓kWh_f, ↓ws_while, ↓we_ext, ↓kEx0_eq, ↓kEx1_eq, ↓kEx3_eq, ↓kJ_nx, ↓kJ_rt, ↓kJ_bk, ↓kJ_ct, ↓kIs_eq, ↓kIsE_eq, wp_some, backSVs_nil, backSVs_cons, lock_unb, lock_fz, lock_own, plain_fz, plain_own, enter_fz, enter_own, put_ownE, put_refE, back_oo, back_of, back_ro, back_rf, back_fz, back_rfz, freeze_own, freeze_ref, freeze_fz, backAt_eq, findSV_nil, findSV_nil2, findSV_plc, findSV_fz, findSV_own, apart_nil, apart_fz, apart_own, apart_plc, placed_nil, placed_fz, placed_own, placed_plc, wipeE_nil, wipeE_cons, backE_nil, backE_cons, unlocked_nil, unlocked_cons, List.set_cons_zero, List.set_cons_succ, List.getD_cons_zero, List.getD_cons_succ, List.getElem?_cons_zero, List.getElem?_cons_succ, List.map_cons, List.map_nil, List.cons_append, List.nil_append, List.replicate_succ, List.replicate_zero, List.length_cons, List.length_nil, List.all_cons, List.all_nil, Nat.reduceSub, Nat.reduceAdd, Nat.reduceLeDiff, Nat.reduceEqDiff, Nat.reduceLT, Nat.zero_add, Bool.not_true, Bool.not_false, Bool.and_true, Bool.true_and, Bool.and_self, and_true, true_and, if_true, reduceIte, reduceCtorEq, decide_true, decide_false, Bool.false_eq_true, Bool.or_false, Bool.or_true, Bool.false_or, Bool.true_or, Bool.and_false, Bool.false_and, Nat.le_refl, lineN, Nat.one_ne_zero, Nat.zero_ne_one, addD_i, subD_i, negD_i, cmpI_i, eqD_i, neD_i, eqD_s, neD_s, eqD_b, neD_b, isD_n, isD_b, isNotD_n, isNotD_b, isBool_b, isNone_n, isNone_b, isNone_i, isNone_s, isNone_l, isNone_t, isNone_d, isi_eq, lenD_l, lenD_t, absD_n, maxD_m, minD_m, intD_i, listD_l, listD_t, tupleD_l, tupleD_t, isiB, mulSD_i, divD_i, modD_i, powD_i, ixD_l, ixD_t, ixD_s, slD_l, slD_t, slD_s, lenD_s, addD_s, addD_l, addD_t, strD_i, wp_bind, wp_guard, atI_0, atI_1, atI_2, atI_3, atI_4, ixN_0, ixN_1, ixN_2, Int.reduceNeg, Int.reduceSub, Int.reduceAdd, listD_s, tupleD_s, mulSD_s, small64_eq, decide_eq_true_eq, or_true, true_or, Int.reducePow, Int.reduceToNat, Int.reduceLE, Int.reduceLT, Int.reduceMul, Int.reduceEq, Int.zero_add, Nat.reducePow, Nat.reduceMul, Int.reduceAbs, rangeD_1, rangeD_2, rangeD_3, sortedD_l, maxLD_l, minLD_l, sumLD_l, reprD_1, ixD_ds, ixD_di, inD_ds, inD_di, notInD_ds, notInD_di, dictPD_l, intsOf_nil, intsOf_cons, Option.bind_some, List.max?_cons', List.min?_cons', List.foldl_cons, List.foldl_nil, kDictb_s, kDictb_int, Int.cast_ofNat_Int, upperD_eq, cutS_S, S_cps, S_len', SX.S_len, SX.S_cat, S_mk, repS_S, inD_S, notInD_S, signD_S, ixD_S, cutG_none, cutG_but, cutD_G, lit_0, lit_1, lit_2, lit_3, lit_4, h2, h3, h4, h5, h6])
      refine spot_ok fun x y p1 c1 hx hy => ?_
      (try simp only [↓wx_0, ↓wx_s, ↓wv_fz, ↓wv_own, ↓wv_plc, ↓kView_fz, ↓kView_own, ↓kView_ref, ↓kView_rfz, ↓wf_fz, ↓wf_own, ↓wf_plc, ↓kFix_fz, ↓kFix_rfz, ↓kFix_own, ↓kFix_ref, ↓we_lit, ↓we_slot, ↓kSlot_fz, ↓kSlot_rfz, ↓kSlot_own, ↓kSlot_ref, ↓wa_nil, ↓wa_cons, ↓kCons1_eq, ↓kCons2_eq, ↓wvs_nil, ↓wvs_cons, ↓kVs1_eq, ↓kVs2_eq, ↓we_op2, ↓kOp2a_eq, ↓kOp2b_eq, ↓kOp2c_eq, ↓kOp2d_eq, ↓we_op1, ↓kOp1a_eq, ↓kOp1b_eq, ↓we_call, ↓kCalla_eq, ↓kCallb_eq, ↓wt_asT, ↓kAsT_eq, ↓wt_and, ↓wt_or, ↓wt_not, ↓kAnd_t, ↓kAnd_f, ↓kOr_t, ↓kOr_f, ↓kNot_eq, ↓we_eT, ↓kET_eq, ↓we_if, ↓kIfE_t, ↓kIfE_f, ↓we_chain, ↓kCh1_eq, ↓kCh2_eq, ↓kCh3_eq, ↓kCh4_eq, ↓kCh5_t, ↓kCh5_f, ↓wfs_nil, ↓wfs_cons, ↓kFs1_eq, ↓kFs2_eq, ↓we_tup, ↓we_lst, ↓kTup_eq, ↓kTupb_eq, ↓kLst_eq, ↓kLstb_eq, ↓we_dict, ↓kDict_eq, ↓kDictb_nil, ↓we_dictT, ↓kDictT_eq, ↓kDictTb_2, ↓wa_pairs0, ↓wa_pairs, ↓wo_no, ↓wo_sm, ↓kSm_eq, ↓we_sl, ↓kSl1_eq, ↓kSl2_eq, ↓kSl3_eq, ↓kSl4_eq, ↓we_m0, ↓we_m1, ↓kM0_eq, ↓kM1_eq, ↓kM1b_eq, ↓kM1c_eq, ↓wg_slot, ↓kGSlot_eq, ↓wgs_nil, ↓wgs_cons, ↓kGs_eq, ↓wg_unp, ↓wi_any, ↓kIAnyA_eq, ↓kIAny_l, ↓kIAny_t, ↓kIAny_s, ↓wi_r1, ↓wi_r2, ↓kR1_eq, ↓kR2_eq, ↓kR2a_eq, ↓we_lc, ↓kLc_eq, ↓kLcE_eq, ↓kLcF_eq, ↓kLcR_eq, ↓kLcT_eq, ↓kLcB_t, ↓kLcB_f, ↓wt_yes, ↓ws_skip, ↓ws_seq, ↓kSeq_nx, ↓kSeq_rt, ↓kSeq_bk, ↓kSeq_ct, ↓ws_expr, ↓kExpr_eq, ↓ws_set, ↓kSet_eq, ↓kSetL_eq, ↓kSetV_fz, ↓kSetV_own, ↓kSetV_plc, ↓kSetP_own, ↓kSetP_ref, ↓kSetP_fz, ↓ws_asg, ↓kAsg_fz, ↓kAsgB_eq, ↓ws_ret, ↓kRet_fz, ↓kRet_own, ↓kRet_plc, ↓kRetP_own, ↓kRetP_ref, ↓ws_retN, ↓ws_if, ↓kIf_t, ↓kIf_f, ↓ws_brk, ↓ws_cnt, ↓ws_for, ↓kFor_eq, ↓kLoop_nx, ↓kLoop_ct, ↓kLoop_bk, ↓kLoop_rt, ↓kBody_eq, ↓wl_eq, ↓kOwnL_own, ↓kOwnL_ref, ↓ws_setIx, ↓kSI1_eq, ↓kSI2_eq, ↓kSI3_eq, ↓kSI4_eq, ↓kSI5_eq, ↓we_app, ↓kAp0_eq, ↓kAp1_eq, ↓kAp2_eq, ↓kAp3_eq, ↓we_user, ↓kUsr_eq, ↓kUsr1_eq, ↓kUsr2_eq, ↓kUsr3_fz, ↓kUsr3_own, ↓warg_nil, ↓warg_fz, ↓warg_own, ↓warg_plc, ↓kArg1_eq, ↓kArg2_eq, ↓kArgP_own, ↓kArgP_ref, ↓kArgP_fz, ↓kArgP_rfz, ↓wc_run, ↓kRun_rt, ↓kRun_nx, ↓kRunR_fz, ↓kRunR_own, ↓wex_nil, ↓wex_fz, ↓wex_ref, ↓wex_rfz, ↓kEx_eq, ↓we_rev, ↓kRev0_eq, ↓kRev_l, ↓wk_eq, ↓kOwnK_own, ↓kOwnK_ref, ↓ws_setKey, ↓kSK1_eq, ↓kSK2_eq, ↓kSK3_eq, ↓kSK4_s, ↓kSK4_i, ↓kSK5_eq, ↓kSK6_eq, ↓we_get1, ↓kG1_eq, ↓kG2_d, ↓kG3_eq, ↓kG4_d, ↓kG5_s, ↓kG5_i, ↓we_get2, ↓kH1_eq, ↓kH2_d, ↓kH3_eq, ↓kH3b_eq, ↓kH4_d, ↓kH5_s, ↓kH5_i, ↓kWh_t, ↓kWh_f, ↓ws_while, ↓we_ext, ↓kEx0_eq, ↓kEx1_eq, ↓kEx3_eq, ↓kJ_nx, ↓kJ_rt, ↓kJ_bk, ↓kJ_ct, ↓kIs_eq, ↓kIsE_eq, wp_some, backSVs_nil, backSVs_cons, lock_unb, lock_fz, lock_own, plain_fz, plain_own, enter_fz, enter_own, put_ownE, put_refE, back_oo, back_of, back_ro, back_rf, back_fz, back_rfz, freeze_own, freeze_ref, freeze_fz, backAt_eq, findSV_nil, findSV_nil2, findSV_plc, findSV_fz, findSV_own, apart_nil, apart_fz, apart_own, apart_plc, placed_nil, placed_fz, placed_own, placed_plc, wipeE_nil, wipeE_cons, backE_nil, backE_cons, unlocked_nil, unlocked_cons, List.set_cons_zero, List.set_cons_succ, List.getD_cons_zero, List.getD_cons_succ, List.getElem?_cons_zero, List.getElem?_cons_succ, List.map_cons, List.map_nil, List.cons_append, List.nil_append, List.replicate_succ, List.replicate_zero, List.length_cons, List.length_nil, List.all_cons, List.all_nil, Nat.reduceSub, Nat.reduceAdd, Nat.reduceLeDiff, Nat.reduceEqDiff, Nat.reduceLT, Nat.zero_add, Bool.not_true, Bool.not_false, Bool.and_true, Bool.true_and, Bool.and_self, and_true, true_and, if_true, reduceIte, reduceCtorEq, decide_true, decide_false, Bool.false_eq_true, Bool.or_false, Bool.or_true, Bool.false_or, Bool.true_or, Bool.and_false, Bool.false_and, Nat.le_refl, lineN, Nat.one_ne_zero, Nat.zero_ne_one, addD_i, subD_i, negD_i, cmpI_i, eqD_i, neD_i, eqD_s, neD_s, eqD_b, neD_b, isD_n, isD_b, isNotD_n, isNotD_b, isBool_b, isNone_n, isNone_b, isNone_i, isNone_s, isNone_l, isNone_t, isNone_d, isi_eq, lenD_l, lenD_t, absD_n, maxD_m, minD_m, intD_i, listD_l, listD_t, tupleD_l, tupleD_t, isiB, mulSD_i, divD_i, modD_i, powD_i, ixD_l, ixD_t, ixD_s, slD_l, slD_t, slD_s, lenD_s, addD_s, addD_l, addD_t, strD_i, wp_bind, wp_guard, atI_0, atI_1, atI_2, atI_3, atI_4, ixN_0, ixN_1, ixN_2, Int.reduceNeg, Int.reduceSub, Int.reduceAdd, listD_s, tupleD_s, mulSD_s, small64_eq, decide_eq_true_eq, or_true, true_or, Int.reducePow, Int.reduceToNat, Int.reduceLE, Int.reduceLT, Int.reduceMul, Int.reduceEq, Int.zero_add, Nat.reducePow, Nat.reduceMul, Int.reduceAbs, rangeD_1, rangeD_2, rangeD_3, sortedD_l, maxLD_l, minLD_l, sumLD_l, reprD_1, ixD_ds, ixD_di, inD_ds, inD_di, notInD_ds, notInD_di, dictPD_l, intsOf_nil, intsOf_cons, Option.bind_some, List.max?_cons', List.min?_cons', List.foldl_cons, List.foldl_nil, kDictb_s, kDictb_int, Int.cast_ofNat_Int, upperD_eq, cutS_S, S_cps, S_len', SX.S_len, SX.S_cat, S_mk, repS_S, inD_S, notInD_S, signD_S, ixD_S, cutG_none, cutG_but, cutD_G, lit_0, lit_1, lit_2, lit_3, lit_4, h2, h3, h4, h5, h6])
      refine box_ok fun a b u v p2 c2 ha hb hu hv hau hbv => ?_
      have n1 := fun {i : Int} (h : nrI i) => (nearB_int i).trans (decide_eq_true h)
      have e1 : spotB (.tuple [.int x, .int y]) = true := by rw [spotB_2, n1 hx, n1 hy]; rfl
      have e2 : boxB (.tuple [.tuple [.int a, .int b], .tuple [.int u, .int v]]) = true := by
        rw [boxB_2, spotB_2, spotB_2, leB_tt, n1 ha, n1 hb, n1 hu, n1 hv, decide_eq_true hau, decide_eq_true hbv]; rfl
      have e3 : boxB (.tuple [.tuple [.int x, .int y], .tuple [.int x, .int y]]) = true := by
        rw [boxB_2, spotB_2, leB_tt, n1 hx, n1 hy, decide_eq_true (Int.le_refl x), decide_eq_true (Int.le_refl y)]; rfl
      have z2 : ∀ a b : PyData, szT (.tuple [a, b]) := fun a b => by simp [szT, lineN]
      have z4 : ∀ a b c d : PyData, szB (.tuple [.tuple [a, b], .tuple [c, d]]) := fun a b c d => by simp [szB, szT, lineN]
      (try simp only [↓wx_0, ↓wx_s, ↓wv_fz, ↓wv_own, ↓wv_plc, ↓kView_fz, ↓kView_own, ↓kView_ref, ↓kView_rfz, ↓wf_fz, ↓wf_own, ↓wf_plc, ↓kFix_fz, ↓kFix_rfz, ↓kFix_own, ↓kFix_ref, ↓we_lit, ↓we_slot, ↓kSlot_fz, ↓kSlot_rfz, ↓kSlot_own, ↓kSlot_ref, ↓wa_nil, ↓wa_cons, ↓kCons1_eq, ↓kCons2_eq, ↓wvs_nil, ↓wvs_cons, ↓kVs1_eq, ↓kVs2_eq, ↓we_op2, ↓kOp2a_eq, ↓kOp2b_eq, ↓kOp2c_eq, ↓kOp2d_eq, ↓we_op1, ↓kOp1a_eq, ↓kOp1b_eq, ↓we_call, ↓kCalla_eq, ↓kCallb_eq, ↓wt_asT, ↓kAsT_eq, ↓wt_and, ↓wt_or, ↓wt_not, ↓kAnd_t, ↓kAnd_f, ↓kOr_t, ↓kOr_f, ↓kNot_eq, ↓we_eT, ↓kET_eq, ↓we_if, ↓kIfE_t, ↓kIfE_f, ↓we_chain, ↓kCh1_eq, ↓kCh2_eq, ↓kCh3_eq, ↓kCh4_eq, ↓kCh5_t, ↓kCh5_f, ↓wfs_nil, ↓wfs_cons, ↓kFs1_eq, ↓kFs2_eq, ↓we_tup, ↓we_lst, ↓kTup_eq, ↓kTupb_eq, ↓kLst_eq, ↓kLstb_eq, ↓we_dict, ↓kDict_eq, ↓kDictb_nil, ↓we_dictT, ↓kDictT_eq, ↓kDictTb_2, ↓wa_pairs0, ↓wa_pairs, ↓wo_no, ↓wo_sm, ↓kSm_eq, ↓we_sl, ↓kSl1_eq, ↓kSl2_eq, ↓kSl3_eq, ↓kSl4_eq, ↓we_m0, ↓we_m1, ↓kM0_eq, ↓kM1_eq, ↓kM1b_eq, ↓kM1c_eq, ↓wg_slot, ↓kGSlot_eq, ↓wgs_nil, ↓wgs_cons, ↓kGs_eq, ↓wg_unp, ↓wi_any, ↓kIAnyA_eq, ↓kIAny_l, ↓kIAny_t, ↓kIAny_s, ↓wi_r1, ↓wi_r2, ↓kR1_eq, ↓kR2_eq, ↓kR2a_eq, ↓we_lc, ↓kLc_eq, ↓kLcE_eq, ↓kLcF_eq, ↓kLcR_eq, ↓kLcT_eq, ↓kLcB_t, ↓kLcB_f, ↓wt_yes, ↓ws_skip, ↓ws_seq, ↓kSeq_nx, ↓kSeq_rt, ↓kSeq_bk, ↓kSeq_ct, ↓ws_expr, ↓kExpr_eq, ↓ws_set, ↓kSet_eq, ↓kSetL_eq, ↓kSetV_fz, ↓kSetV_own, ↓kSetV_plc, ↓kSetP_own, ↓kSetP_ref, ↓kSetP_fz, ↓ws_asg, ↓kAsg_fz, ↓kAsgB_eq, ↓ws_ret, ↓kRet_fz, ↓kRet_own, ↓kRet_plc, ↓kRetP_own, ↓kRetP_ref, ↓ws_retN, ↓ws_if, ↓kIf_t, ↓kIf_f, ↓ws_brk, ↓ws_cnt, ↓ws_for, ↓kFor_eq, ↓kLoop_nx, ↓kLoop_ct, ↓kLoop_bk, ↓kLoop_rt, ↓kBody_eq, ↓wl_eq, ↓kOwnL_own, ↓kOwnL_ref, ↓ws_setIx, ↓kSI1_eq, ↓kSI2_eq, ↓kSI3_eq, ↓kSI4_eq, ↓kSI5_eq, ↓we_app, ↓kAp0_eq, ↓kAp1_eq, ↓kAp2_eq, ↓kAp3_eq, ↓we_user, ↓kUsr_eq, ↓kUsr1_eq, ↓kUsr2_eq, ↓kUsr3_fz, ↓kUsr3_own, ↓warg_nil, ↓warg_fz, ↓warg_own, ↓warg_plc, ↓kArg1_eq, ↓kArg2_eq, ↓kArgP_own, ↓kArgP_ref, ↓kArgP_fz, ↓kArgP_rfz, ↓wc_run, ↓kRun_rt, ↓kRun_nx, ↓kRunR_fz, ↓kRunR_own, ↓wex_nil, ↓wex_fz, ↓wex_ref, ↓wex_rfz, ↓kEx_eq, ↓we_rev, ↓kRev0_eq, ↓kRev_l, ↓wk_eq, ↓kOwnK_own, ↓kOwnK_ref, ↓ws_setKey, ↓kSK1_eq, ↓kSK2_eq, ↓kSK3_eq, ↓kSK4_s, ↓kSK4_i, ↓kSK5_eq, ↓kSK6_eq, ↓we_get1, ↓kG1_eq, ↓kG2_d, ↓kG3_eq, ↓kG4_d, ↓kG5_s, ↓kG5_i, ↓we_get2, ↓kH1_eq, ↓kH2_d, ↓kH3_eq, ↓kH3b_eq, ↓kH4_d, ↓kH5_s, ↓kH5_i, ↓kWh_t, ↓kWh_f, ↓ws_while, ↓we_ext, ↓kEx0_eq, ↓kEx1_eq, ↓kEx3_eq, ↓kJ_nx, ↓kJ_rt, ↓kJ_bk, ↓kJ_ct, ↓kIs_eq, ↓kIsE_eq, wp_some, backSVs_nil, backSVs_cons, lock_unb, lock_fz, lock_own, plain_fz, plain_own, enter_fz, enter_own, put_ownE, put_refE, back_oo, back_of, back_ro, back_rf, back_fz, back_rfz, freeze_own, freeze_ref, freeze_fz, backAt_eq, findSV_nil, findSV_nil2, findSV_plc, findSV_fz, findSV_own, apart_nil, apart_fz, apart_own, apart_plc, placed_nil, placed_fz, placed_own, placed_plc, wipeE_nil, wipeE_cons, backE_nil, backE_cons, unlocked_nil, unlocked_cons, List.set_cons_zero, List.set_cons_succ, List.getD_cons_zero, List.getD_cons_succ, List.getElem?_cons_zero, List.getElem?_cons_succ, List.map_cons, List.map_nil, List.cons_append, List.nil_append, List.replicate_succ, List.replicate_zero, List.length_cons, List.length_nil, List.all_cons, List.all_nil, Nat.reduceSub, Nat.reduceAdd, Nat.reduceLeDiff, Nat.reduceEqDiff, Nat.reduceLT, Nat.zero_add, Bool.not_true, Bool.not_false, Bool.and_true, Bool.true_and, Bool.and_self, and_true, true_and, if_true, reduceIte, reduceCtorEq, decide_true, decide_false, Bool.false_eq_true, Bool.or_false, Bool.or_true, Bool.false_or, Bool.true_or, Bool.and_false, Bool.false_and, Nat.le_refl, lineN, Nat.one_ne_zero, Nat.zero_ne_one, addD_i, subD_i, negD_i, cmpI_i, eqD_i, neD_i, eqD_s, neD_s, eqD_b, neD_b, isD_n, isD_b, isNotD_n, isNotD_b, isBool_b, isNone_n, isNone_b, isNone_i, isNone_s, isNone_l, isNone_t, isNone_d, isi_eq, lenD_l, lenD_t, absD_n, maxD_m, minD_m, intD_i, listD_l, listD_t, tupleD_l, tupleD_t, isiB, mulSD_i, divD_i, modD_i, powD_i, ixD_l, ixD_t, ixD_s, slD_l, slD_t, slD_s, lenD_s, addD_s, addD_l, addD_t, strD_i, wp_bind, wp_guard, atI_0, atI_1, atI_2, atI_3, atI_4, ixN_0, ixN_1, ixN_2, Int.reduceNeg, Int.reduceSub, Int.reduceAdd, listD_s, tupleD_s, mulSD_s, small64_eq, decide_eq_true_eq, or_true, true_or, Int.reducePow, Int.reduceToNat, Int.reduceLE, Int.reduceLT, Int.reduceMul, Int.reduceEq, Int.zero_add, Nat.reducePow, Nat.reduceMul, Int.reduceAbs, rangeD_1, rangeD_2, rangeD_3, sortedD_l, maxLD_l, minLD_l, sumLD_l, reprD_1, ixD_ds, ixD_di, inD_ds, inD_di, notInD_ds, notInD_di, dictPD_l, intsOf_nil, intsOf_cons, Option.bind_some, List.max?_cons', List.min?_cons', List.foldl_cons, List.foldl_nil, kDictb_s, kDictb_int, Int.cast_ofNat_Int, upperD_eq, cutS_S, S_cps, S_len', SX.S_len, SX.S_cat, S_mk, repS_S, inD_S, notInD_S, signD_S, ixD_S, cutG_none, cutG_but, cutD_G, lit_0, lit_1, lit_2, lit_3, lit_4, h2, h3, h4, h5, h6])
      refine isspot_any (z2 _ _) ?_
      (try simp only [↓wx_0, ↓wx_s, ↓wv_fz, ↓wv_own, ↓wv_plc, ↓kView_fz, ↓kView_own, ↓kView_ref, ↓kView_rfz, ↓wf_fz, ↓wf_own, ↓wf_plc, ↓kFix_fz, ↓kFix_rfz, ↓kFix_own, ↓kFix_ref, ↓we_lit, ↓we_slot, ↓kSlot_fz, ↓kSlot_rfz, ↓kSlot_own, ↓kSlot_ref, ↓wa_nil, ↓wa_cons, ↓kCons1_eq, ↓kCons2_eq, ↓wvs_nil, ↓wvs_cons, ↓kVs1_eq, ↓kVs2_eq, ↓we_op2, ↓kOp2a_eq, ↓kOp2b_eq, ↓kOp2c_eq, ↓kOp2d_eq, ↓we_op1, ↓kOp1a_eq, ↓kOp1b_eq, ↓we_call, ↓kCalla_eq, ↓kCallb_eq, ↓wt_asT, ↓kAsT_eq, ↓wt_and, ↓wt_or, ↓wt_not, ↓kAnd_t, ↓kAnd_f, ↓kOr_t, ↓kOr_f, ↓kNot_eq, ↓we_eT, ↓kET_eq, ↓we_if, ↓kIfE_t, ↓kIfE_f, ↓we_chain, ↓kCh1_eq, ↓kCh2_eq, ↓kCh3_eq, ↓kCh4_eq, ↓kCh5_t, ↓kCh5_f, ↓wfs_nil, ↓wfs_cons, ↓kFs1_eq, ↓kFs2_eq, ↓we_tup, ↓we_lst, ↓kTup_eq, ↓kTupb_eq, ↓kLst_eq, ↓kLstb_eq, ↓we_dict, ↓kDict_eq, ↓kDictb_nil, ↓we_dictT, ↓kDictT_eq, ↓kDictTb_2, ↓wa_pairs0, ↓wa_pairs, ↓wo_no, ↓wo_sm, ↓kSm_eq, ↓we_sl, ↓kSl1_eq, ↓kSl2_eq, ↓kSl3_eq, ↓kSl4_eq, ↓we_m0, ↓we_m1, ↓kM0_eq, ↓kM1_eq, ↓kM1b_eq, ↓kM1c_eq, ↓wg_slot, ↓kGSlot_eq, ↓wgs_nil, ↓wgs_cons, ↓kGs_eq, ↓wg_unp, ↓wi_any, ↓kIAnyA_eq, ↓kIAny_l, ↓kIAny_t, ↓kIAny_s, ↓wi_r1, ↓wi_r2, ↓kR1_eq, ↓kR2_eq, ↓kR2a_eq, ↓we_lc, ↓kLc_eq, ↓kLcE_eq, ↓kLcF_eq, ↓kLcR_eq, ↓kLcT_eq, ↓kLcB_t, ↓kLcB_f, ↓wt_yes, ↓ws_skip, ↓ws_seq, ↓kSeq_nx, ↓kSeq_rt, ↓kSeq_bk, ↓kSeq_ct, ↓ws_expr, ↓kExpr_eq, ↓ws_set, ↓kSet_eq, ↓kSetL_eq, ↓kSetV_fz, ↓kSetV_own, ↓kSetV_plc, ↓kSetP_own, ↓kSetP_ref, ↓kSetP_fz, ↓ws_asg, ↓kAsg_fz, ↓kAsgB_eq, ↓ws_ret, ↓kRet_fz, ↓kRet_own, ↓kRet_plc, ↓kRetP_own, ↓kRetP_ref, ↓ws_retN, ↓ws_if, ↓kIf_t, ↓kIf_f, ↓ws_brk, ↓ws_cnt, ↓ws_for, ↓kFor_eq, ↓kLoop_nx, ↓kLoop_ct, ↓kLoop_bk, ↓kLoop_rt, ↓kBody_eq, ↓wl_eq, ↓kOwnL_own, ↓kOwnL_ref, ↓ws_setIx, ↓kSI1_eq, ↓kSI2_eq, ↓kSI3_eq, ↓kSI4_eq, ↓kSI5_eq, ↓we_app, ↓kAp0_eq, ↓kAp1_eq, ↓kAp2_eq, ↓kAp3_eq, ↓we_user, ↓kUsr_eq, ↓kUsr1_eq, ↓kUsr2_eq, ↓kUsr3_fz, ↓kUsr3_own, ↓warg_nil, ↓warg_fz, ↓warg_own, ↓warg_plc, ↓kArg1_eq, ↓kArg2_eq, ↓kArgP_own, ↓kArgP_ref, ↓kArgP_fz, ↓kArgP_rfz, ↓wc_run, ↓kRun_rt, ↓kRun_nx, ↓kRunR_fz, ↓kRunR_own, ↓wex_nil, ↓wex_fz, ↓wex_ref, ↓wex_rfz, ↓kEx_eq, ↓we_rev, ↓kRev0_eq, ↓kRev_l, ↓wk_eq, ↓kOwnK_own, ↓kOwnK_ref, ↓ws_setKey, ↓kSK1_eq, ↓kSK2_eq, ↓kSK3_eq, ↓kSK4_s, ↓kSK4_i, ↓kSK5_eq, ↓kSK6_eq, ↓we_get1, ↓kG1_eq, ↓kG2_d, ↓kG3_eq, ↓kG4_d, ↓kG5_s, ↓kG5_i, ↓we_get2, ↓kH1_eq, ↓kH2_d, ↓kH3_eq, ↓kH3b_eq, ↓kH4_d, ↓kH5_s, ↓kH5_i, ↓kWh_t, ↓kWh_f, ↓ws_while, ↓we_ext, ↓kEx0_eq, ↓kEx1_eq, ↓kEx3_eq, ↓kJ_nx, ↓kJ_rt, ↓kJ_bk, ↓kJ_ct, ↓kIs_eq, ↓kIsE_eq, wp_some, backSVs_nil, backSVs_cons, lock_unb, lock_fz, lock_own, plain_fz, plain_own, enter_fz, enter_own, put_ownE, put_refE, back_oo, back_of, back_ro, back_rf, back_fz, back_rfz, freeze_own, freeze_ref, freeze_fz, backAt_eq, findSV_nil, findSV_nil2, findSV_plc, findSV_fz, findSV_own, apart_nil, apart_fz, apart_own, apart_plc, placed_nil, placed_fz, placed_own, placed_plc, wipeE_nil, wipeE_cons, backE_nil, backE_cons, unlocked_nil, unlocked_cons, List.set_cons_zero, List.set_cons_succ, List.getD_cons_zero, List.getD_cons_succ, List.getElem?_cons_zero, List.getElem?_cons_succ, List.map_cons, List.map_nil, List.cons_append, List.nil_append, List.replicate_succ, List.replicate_zero, List.length_cons, List.length_nil, List.all_cons, List.all_nil, Nat.reduceSub, Nat.reduceAdd, Nat.reduceLeDiff, Nat.reduceEqDiff, Nat.reduceLT, Nat.zero_add, Bool.not_true, Bool.not_false, Bool.and_true, Bool.true_and, Bool.and_self, and_true, true_and, if_true, reduceIte, reduceCtorEq, decide_true, decide_false, Bool.false_eq_true, Bool.or_false, Bool.or_true, Bool.false_or, Bool.true_or, Bool.and_false, Bool.false_and, Nat.le_refl, lineN, Nat.one_ne_zero, Nat.zero_ne_one, addD_i, subD_i, negD_i, cmpI_i, eqD_i, neD_i, eqD_s, neD_s, eqD_b, neD_b, isD_n, isD_b, isNotD_n, isNotD_b, isBool_b, isNone_n, isNone_b, isNone_i, isNone_s, isNone_l, isNone_t, isNone_d, isi_eq, lenD_l, lenD_t, absD_n, maxD_m, minD_m, intD_i, listD_l, listD_t, tupleD_l, tupleD_t, isiB, mulSD_i, divD_i, modD_i, powD_i, ixD_l, ixD_t, ixD_s, slD_l, slD_t, slD_s, lenD_s, addD_s, addD_l, addD_t, strD_i, wp_bind, wp_guard, atI_0, atI_1, atI_2, atI_3, atI_4, ixN_0, ixN_1, ixN_2, Int.reduceNeg, Int.reduceSub, Int.reduceAdd, listD_s, tupleD_s, mulSD_s, small64_eq, decide_eq_true_eq, or_true, true_or, Int.reducePow, Int.reduceToNat, Int.reduceLE, Int.reduceLT, Int.reduceMul, Int.reduceEq, Int.zero_add, Nat.reducePow, Nat.reduceMul, Int.reduceAbs, rangeD_1, rangeD_2, rangeD_3, sortedD_l, maxLD_l, minLD_l, sumLD_l, reprD_1, ixD_ds, ixD_di, inD_ds, inD_di, notInD_ds, notInD_di, dictPD_l, intsOf_nil, intsOf_cons, Option.bind_some, List.max?_cons', List.min?_cons', List.foldl_cons, List.foldl_nil, kDictb_s, kDictb_int, Int.cast_ofNat_Int, upperD_eq, cutS_S, S_cps, S_len', SX.S_len, SX.S_cat, S_mk, repS_S, inD_S, notInD_S, signD_S, ixD_S, cutG_none, cutG_but, cutD_G, lit_0, lit_1, lit_2, lit_3, lit_4, e1, beq_self_eq_true])
      refine isbox_any (z4 _ _ _ _) ?_
      (try simp only [↓wx_0, ↓wx_s, ↓wv_fz, ↓wv_own, ↓wv_plc, ↓kView_fz, ↓kView_own, ↓kView_ref, ↓kView_rfz, ↓wf_fz, ↓wf_own, ↓wf_plc, ↓kFix_fz, ↓kFix_rfz, ↓kFix_own, ↓kFix_ref, ↓we_lit, ↓we_slot, ↓kSlot_fz, ↓kSlot_rfz, ↓kSlot_own, ↓kSlot_ref, ↓wa_nil, ↓wa_cons, ↓kCons1_eq, ↓kCons2_eq, ↓wvs_nil, ↓wvs_cons, ↓kVs1_eq, ↓kVs2_eq, ↓we_op2, ↓kOp2a_eq, ↓kOp2b_eq, ↓kOp2c_eq, ↓kOp2d_eq, ↓we_op1, ↓kOp1a_eq, ↓kOp1b_eq, ↓we_call, ↓kCalla_eq, ↓kCallb_eq, ↓wt_asT, ↓kAsT_eq, ↓wt_and, ↓wt_or, ↓wt_not, ↓kAnd_t, ↓kAnd_f, ↓kOr_t, ↓kOr_f, ↓kNot_eq, ↓we_eT, ↓kET_eq, ↓we_if, ↓kIfE_t, ↓kIfE_f, ↓we_chain, ↓kCh1_eq, ↓kCh2_eq, ↓kCh3_eq, ↓kCh4_eq, ↓kCh5_t, ↓kCh5_f, ↓wfs_nil, ↓wfs_cons, ↓kFs1_eq, ↓kFs2_eq, ↓we_tup, ↓we_lst, ↓kTup_eq, ↓kTupb_eq, ↓kLst_eq, ↓kLstb_eq, ↓we_dict, ↓kDict_eq, ↓kDictb_nil, ↓we_dictT, ↓kDictT_eq, ↓kDictTb_2, ↓wa_pairs0, ↓wa_pairs, ↓wo_no, ↓wo_sm, ↓kSm_eq, ↓we_sl, ↓kSl1_eq, ↓kSl2_eq, ↓kSl3_eq, ↓kSl4_eq, ↓we_m0, ↓we_m1, ↓kM0_eq, ↓kM1_eq, ↓kM1b_eq, ↓kM1c_eq, ↓wg_slot, ↓kGSlot_eq, ↓wgs_nil, ↓wgs_cons, ↓kGs_eq, ↓wg_unp, ↓wi_any, ↓kIAnyA_eq, ↓kIAny_l, ↓kIAny_t, ↓kIAny_s, ↓wi_r1, ↓wi_r2, ↓kR1_eq, ↓kR2_eq, ↓kR2a_eq, ↓we_lc, ↓kLc_eq, ↓kLcE_eq, ↓kLcF_eq, ↓kLcR_eq, ↓kLcT_eq, ↓kLcB_t, ↓kLcB_f, ↓wt_yes, ↓ws_skip, ↓ws_seq, ↓kSeq_nx, ↓kSeq_rt, ↓kSeq_bk, ↓kSeq_ct, ↓ws_expr, ↓kExpr_eq, ↓ws_set, ↓kSet_eq, ↓kSetL_eq, ↓kSetV_fz, ↓kSetV_own, ↓kSetV_plc, ↓kSetP_own, ↓kSetP_ref, ↓kSetP_fz, ↓ws_asg, ↓kAsg_fz, ↓kAsgB_eq, ↓ws_ret, ↓kRet_fz, ↓kRet_own, ↓kRet_plc, ↓kRetP_own, ↓kRetP_ref, ↓ws_retN, ↓ws_if, ↓kIf_t, ↓kIf_f, ↓ws_brk, ↓ws_cnt, ↓ws_for, ↓kFor_eq, ↓kLoop_nx, ↓kLoop_ct, ↓kLoop_bk, ↓kLoop_rt, ↓kBody_eq, ↓wl_eq, ↓kOwnL_own, ↓kOwnL_ref, ↓ws_setIx, ↓kSI1_eq, ↓kSI2_eq, ↓kSI3_eq, ↓kSI4_eq, ↓kSI5_eq, ↓we_app, ↓kAp0_eq, ↓kAp1_eq, ↓kAp2_eq, ↓kAp3_eq, ↓we_user, ↓kUsr_eq, ↓kUsr1_eq, ↓kUsr2_eq, ↓kUsr3_fz, ↓kUsr3_own, ↓warg_nil, ↓warg_fz, ↓warg_own, ↓warg_plc, ↓kArg1_eq, ↓kArg2_eq, ↓kArgP_own, ↓kArgP_ref, ↓kArgP_fz, ↓kArgP_rfz, ↓wc_run, ↓kRun_rt, ↓kRun_nx, ↓kRunR_fz, ↓kRunR_own, ↓wex_nil, ↓wex_fz, ↓wex_ref, ↓wex_rfz, ↓kEx_eq, ↓we_rev, ↓kRev0_eq, ↓kRev_l, ↓wk_eq, ↓kOwnK_own, ↓kOwnK_ref, ↓ws_setKey, ↓kSK1_eq, ↓kSK2_eq, ↓kSK3_eq, ↓kSK4_s, ↓kSK4_i, ↓kSK5_eq, ↓kSK6_eq, ↓we_get1, ↓kG1_eq, ↓kG2_d, ↓kG3_eq, ↓kG4_d, ↓kG5_s, ↓kG5_i, ↓we_get2, ↓kH1_eq, ↓kH2_d, ↓kH3_eq, ↓kH3b_eq, ↓kH4_d, ↓kH5_s, ↓kH5_i, ↓kWh_t, ↓kWh_f, ↓ws_while, ↓we_ext, ↓kEx0_eq, ↓kEx1_eq, ↓kEx3_eq, ↓kJ_nx, ↓kJ_rt, ↓kJ_bk, ↓kJ_ct, ↓kIs_eq, ↓kIsE_eq, wp_some, backSVs_nil, backSVs_cons, lock_unb, lock_fz, lock_own, plain_fz, plain_own, enter_fz, enter_own, put_ownE, put_refE, back_oo, back_of, back_ro, back_rf, back_fz, back_rfz, freeze_own, freeze_ref, freeze_fz, backAt_eq, findSV_nil, findSV_nil2, findSV_plc, findSV_fz, findSV_own, apart_nil, apart_fz, apart_own, apart_plc, placed_nil, placed_fz, placed_own, placed_plc, wipeE_nil, wipeE_cons, backE_nil, backE_cons, unlocked_nil, unlocked_cons, List.set_cons_zero, List.set_cons_succ, List.getD_cons_zero, List.getD_cons_succ, List.getElem?_cons_zero, List.getElem?_cons_succ, List.map_cons, List.map_nil, List.cons_append, List.nil_append, List.replicate_succ, List.replicate_zero, List.length_cons, List.length_nil, List.all_cons, List.all_nil, Nat.reduceSub, Nat.reduceAdd, Nat.reduceLeDiff, Nat.reduceEqDiff, Nat.reduceLT, Nat.zero_add, Bool.not_true, Bool.not_false, Bool.and_true, Bool.true_and, Bool.and_self, and_true, true_and, if_true, reduceIte, reduceCtorEq, decide_true, decide_false, Bool.false_eq_true, Bool.or_false, Bool.or_true, Bool.false_or, Bool.true_or, Bool.and_false, Bool.false_and, Nat.le_refl, lineN, Nat.one_ne_zero, Nat.zero_ne_one, addD_i, subD_i, negD_i, cmpI_i, eqD_i, neD_i, eqD_s, neD_s, eqD_b, neD_b, isD_n, isD_b, isNotD_n, isNotD_b, isBool_b, isNone_n, isNone_b, isNone_i, isNone_s, isNone_l, isNone_t, isNone_d, isi_eq, lenD_l, lenD_t, absD_n, maxD_m, minD_m, intD_i, listD_l, listD_t, tupleD_l, tupleD_t, isiB, mulSD_i, divD_i, modD_i, powD_i, ixD_l, ixD_t, ixD_s, slD_l, slD_t, slD_s, lenD_s, addD_s, addD_l, addD_t, strD_i, wp_bind, wp_guard, atI_0, atI_1, atI_2, atI_3, atI_4, ixN_0, ixN_1, ixN_2, Int.reduceNeg, Int.reduceSub, Int.reduceAdd, listD_s, tupleD_s, mulSD_s, small64_eq, decide_eq_true_eq, or_true, true_or, Int.reducePow, Int.reduceToNat, Int.reduceLE, Int.reduceLT, Int.reduceMul, Int.reduceEq, Int.zero_add, Nat.reducePow, Nat.reduceMul, Int.reduceAbs, rangeD_1, rangeD_2, rangeD_3, sortedD_l, maxLD_l, minLD_l, sumLD_l, reprD_1, ixD_ds, ixD_di, inD_ds, inD_di, notInD_ds, notInD_di, dictPD_l, intsOf_nil, intsOf_cons, Option.bind_some, List.max?_cons', List.min?_cons', List.foldl_cons, List.foldl_nil, kDictb_s, kDictb_int, Int.cast_ofNat_Int, upperD_eq, cutS_S, S_cps, S_len', SX.S_len, SX.S_cat, S_mk, repS_S, inD_S, notInD_S, signD_S, ixD_S, cutG_none, cutG_but, cutD_G, lit_0, lit_1, lit_2, lit_3, lit_4, e2, beq_self_eq_true])
      refine isbox_any (z4 _ _ _ _) ?_
      (try simp only [↓wx_0, ↓wx_s, ↓wv_fz, ↓wv_own, ↓wv_plc, ↓kView_fz, ↓kView_own, ↓kView_ref, ↓kView_rfz, ↓wf_fz, ↓wf_own, ↓wf_plc, ↓kFix_fz, ↓kFix_rfz, ↓kFix_own, ↓kFix_ref, ↓we_lit, ↓we_slot, ↓kSlot_fz, ↓kSlot_rfz, ↓kSlot_own, ↓kSlot_ref, ↓wa_nil, ↓wa_cons, ↓kCons1_eq, ↓kCons2_eq, ↓wvs_nil, ↓wvs_cons, ↓kVs1_eq, ↓kVs2_eq, ↓we_op2, ↓kOp2a_eq, ↓kOp2b_eq, ↓kOp2c_eq, ↓kOp2d_eq, ↓we_op1, ↓kOp1a_eq, ↓kOp1b_eq, ↓we_call, ↓kCalla_eq, ↓kCallb_eq, ↓wt_asT, ↓kAsT_eq, ↓wt_and, ↓wt_or, ↓wt_not, ↓kAnd_t, ↓kAnd_f, ↓kOr_t, ↓kOr_f, ↓kNot_eq, ↓we_eT, ↓kET_eq, ↓we_if, ↓kIfE_t, ↓kIfE_f, ↓we_chain, ↓kCh1_eq, ↓kCh2_eq, ↓kCh3_eq, ↓kCh4_eq, ↓kCh5_t, ↓kCh5_f, ↓wfs_nil, ↓wfs_cons, ↓kFs1_eq, ↓kFs2_eq, ↓we_tup, ↓we_lst, ↓kTup_eq, ↓kTupb_eq, ↓kLst_eq, ↓kLstb_eq, ↓we_dict, ↓kDict_eq, ↓kDictb_nil, ↓we_dictT, ↓kDictT_eq, ↓kDictTb_2, ↓wa_pairs0, ↓wa_pairs, ↓wo_no, ↓wo_sm, ↓kSm_eq, ↓we_sl, ↓kSl1_eq, ↓kSl2_eq, ↓kSl3_eq, ↓kSl4_eq, ↓we_m0, ↓we_m1, ↓kM0_eq, ↓kM1_eq, ↓kM1b_eq, ↓kM1c_eq, ↓wg_slot, ↓kGSlot_eq, ↓wgs_nil, ↓wgs_cons, ↓kGs_eq, ↓wg_unp, ↓wi_any, ↓kIAnyA_eq, ↓kIAny_l, ↓kIAny_t, ↓kIAny_s, ↓wi_r1, ↓wi_r2, ↓kR1_eq, ↓kR2_eq, ↓kR2a_eq, ↓we_lc, ↓kLc_eq, ↓kLcE_eq, ↓kLcF_eq, ↓kLcR_eq, ↓kLcT_eq, ↓kLcB_t, ↓kLcB_f, ↓wt_yes, ↓ws_skip, ↓ws_seq, ↓kSeq_nx, ↓kSeq_rt, ↓kSeq_bk, ↓kSeq_ct, ↓ws_expr, ↓kExpr_eq, ↓ws_set, ↓kSet_eq, ↓kSetL_eq, ↓kSetV_fz, ↓kSetV_own, ↓kSetV_plc, ↓kSetP_own, ↓kSetP_ref, ↓kSetP_fz, ↓ws_asg, ↓kAsg_fz, ↓kAsgB_eq, ↓ws_ret, ↓kRet_fz, ↓kRet_own, ↓kRet_plc, ↓kRetP_own, ↓kRetP_ref, ↓ws_retN, ↓ws_if, ↓kIf_t, ↓kIf_f, ↓ws_brk, ↓ws_cnt, ↓ws_for, ↓kFor_eq, ↓kLoop_nx, ↓kLoop_ct, ↓kLoop_bk, ↓kLoop_rt, ↓kBody_eq, ↓wl_eq, ↓kOwnL_own, ↓kOwnL_ref, ↓ws_setIx, ↓kSI1_eq, ↓kSI2_eq, ↓kSI3_eq, ↓kSI4_eq, ↓kSI5_eq, ↓we_app, ↓kAp0_eq, ↓kAp1_eq, ↓kAp2_eq, ↓kAp3_eq, ↓we_user, ↓kUsr_eq, ↓kUsr1_eq, ↓kUsr2_eq, ↓kUsr3_fz, ↓kUsr3_own, ↓warg_nil, ↓warg_fz, ↓warg_own, ↓warg_plc, ↓kArg1_eq, ↓kArg2_eq, ↓kArgP_own, ↓kArgP_ref, ↓kArgP_fz, ↓kArgP_rfz, ↓wc_run, ↓kRun_rt, ↓kRun_nx, ↓kRunR_fz, ↓kRunR_own, ↓wex_nil, ↓wex_fz, ↓wex_ref, ↓wex_rfz, ↓kEx_eq, ↓we_rev, ↓kRev0_eq, ↓kRev_l, ↓wk_eq, ↓kOwnK_own, ↓kOwnK_ref, ↓ws_setKey, ↓kSK1_eq, ↓kSK2_eq, ↓kSK3_eq, ↓kSK4_s, ↓kSK4_i, ↓kSK5_eq, ↓kSK6_eq, ↓we_get1, ↓kG1_eq, ↓kG2_d, ↓kG3_eq, ↓kG4_d, ↓kG5_s, ↓kG5_i, ↓we_get2, ↓kH1_eq, ↓kH2_d, ↓kH3_eq, ↓kH3b_eq, ↓kH4_d, ↓kH5_s, ↓kH5_i, ↓kWh_t, ↓kWh_f, ↓ws_while, ↓we_ext, ↓kEx0_eq, ↓kEx1_eq, ↓kEx3_eq, ↓kJ_nx, ↓kJ_rt, ↓kJ_bk, ↓kJ_ct, ↓kIs_eq, ↓kIsE_eq, wp_some, backSVs_nil, backSVs_cons, lock_unb, lock_fz, lock_own, plain_fz, plain_own, enter_fz, enter_own, put_ownE, put_refE, back_oo, back_of, back_ro, back_rf, back_fz, back_rfz, freeze_own, freeze_ref, freeze_fz, backAt_eq, findSV_nil, findSV_nil2, findSV_plc, findSV_fz, findSV_own, apart_nil, apart_fz, apart_own, apart_plc, placed_nil, placed_fz, placed_own, placed_plc, wipeE_nil, wipeE_cons, backE_nil, backE_cons, unlocked_nil, unlocked_cons, List.set_cons_zero, List.set_cons_succ, List.getD_cons_zero, List.getD_cons_succ, List.getElem?_cons_zero, List.getElem?_cons_succ, List.map_cons, List.map_nil, List.cons_append, List.nil_append, List.replicate_succ, List.replicate_zero, List.length_cons, List.length_nil, List.all_cons, List.all_nil, Nat.reduceSub, Nat.reduceAdd, Nat.reduceLeDiff, Nat.reduceEqDiff, Nat.reduceLT, Nat.zero_add, Bool.not_true, Bool.not_false, Bool.and_true, Bool.true_and, Bool.and_self, and_true, true_and, if_true, reduceIte, reduceCtorEq, decide_true, decide_false, Bool.false_eq_true, Bool.or_false, Bool.or_true, Bool.false_or, Bool.true_or, Bool.and_false, Bool.false_and, Nat.le_refl, lineN, Nat.one_ne_zero, Nat.zero_ne_one, addD_i, subD_i, negD_i, cmpI_i, eqD_i, neD_i, eqD_s, neD_s, eqD_b, neD_b, isD_n, isD_b, isNotD_n, isNotD_b, isBool_b, isNone_n, isNone_b, isNone_i, isNone_s, isNone_l, isNone_t, isNone_d, isi_eq, lenD_l, lenD_t, absD_n, maxD_m, minD_m, intD_i, listD_l, listD_t, tupleD_l, tupleD_t, isiB, mulSD_i, divD_i, modD_i, powD_i, ixD_l, ixD_t, ixD_s, slD_l, slD_t, slD_s, lenD_s, addD_s, addD_l, addD_t, strD_i, wp_bind, wp_guard, atI_0, atI_1, atI_2, atI_3, atI_4, ixN_0, ixN_1, ixN_2, Int.reduceNeg, Int.reduceSub, Int.reduceAdd, listD_s, tupleD_s, mulSD_s, small64_eq, decide_eq_true_eq, or_true, true_or, Int.reducePow, Int.reduceToNat, Int.reduceLE, Int.reduceLT, Int.reduceMul, Int.reduceEq, Int.zero_add, Nat.reducePow, Nat.reduceMul, Int.reduceAbs, rangeD_1, rangeD_2, rangeD_3, sortedD_l, maxLD_l, minLD_l, sumLD_l, reprD_1, ixD_ds, ixD_di, inD_ds, inD_di, notInD_ds, notInD_di, dictPD_l, intsOf_nil, intsOf_cons, Option.bind_some, List.max?_cons', List.min?_cons', List.foldl_cons, List.foldl_nil, kDictb_s, kDictb_int, Int.cast_ofNat_Int, upperD_eq, cutS_S, S_cps, S_len', SX.S_len, SX.S_cat, S_mk, repS_S, inD_S, notInD_S, signD_S, ixD_S, cutG_none, cutG_but, cutD_G, lit_0, lit_1, lit_2, lit_3, lit_4, e3, beq_self_eq_true])
      refine no_spots_ok hx hy fun p3 c3 ds hds => ?_
      (try simp only [↓wx_0, ↓wx_s, ↓wv_fz, ↓wv_own, ↓wv_plc, ↓kView_fz, ↓kView_own, ↓kView_ref, ↓kView_rfz, ↓wf_fz, ↓wf_own, ↓wf_plc, ↓kFix_fz, ↓kFix_rfz, ↓kFix_own, ↓kFix_ref, ↓we_lit, ↓we_slot, ↓kSlot_fz, ↓kSlot_rfz, ↓kSlot_own, ↓kSlot_ref, ↓wa_nil, ↓wa_cons, ↓kCons1_eq, ↓kCons2_eq, ↓wvs_nil, ↓wvs_cons, ↓kVs1_eq, ↓kVs2_eq, ↓we_op2, ↓kOp2a_eq, ↓kOp2b_eq, ↓kOp2c_eq, ↓kOp2d_eq, ↓we_op1, ↓kOp1a_eq, ↓kOp1b_eq, ↓we_call, ↓kCalla_eq, ↓kCallb_eq, ↓wt_asT, ↓kAsT_eq, ↓wt_and, ↓wt_or, ↓wt_not, ↓kAnd_t, ↓kAnd_f, ↓kOr_t, ↓kOr_f, ↓kNot_eq, ↓we_eT, ↓kET_eq, ↓we_if, ↓kIfE_t, ↓kIfE_f, ↓we_chain, ↓kCh1_eq, ↓kCh2_eq, ↓kCh3_eq, ↓kCh4_eq, ↓kCh5_t, ↓kCh5_f, ↓wfs_nil, ↓wfs_cons, ↓kFs1_eq, ↓kFs2_eq, ↓we_tup, ↓we_lst, ↓kTup_eq, ↓kTupb_eq, ↓kLst_eq, ↓kLstb_eq, ↓we_dict, ↓kDict_eq, ↓kDictb_nil, ↓we_dictT, ↓kDictT_eq, ↓kDictTb_2, ↓wa_pairs0, ↓wa_pairs, ↓wo_no, ↓wo_sm, ↓kSm_eq, ↓we_sl, ↓kSl1_eq, ↓kSl2_eq, ↓kSl3_eq, ↓kSl4_eq, ↓we_m0, ↓we_m1, ↓kM0_eq, ↓kM1_eq, ↓kM1b_eq, ↓kM1c_eq, ↓wg_slot, ↓kGSlot_eq, ↓wgs_nil, ↓wgs_cons, ↓kGs_eq, ↓wg_unp, ↓wi_any, ↓kIAnyA_eq, ↓kIAny_l, ↓kIAny_t, ↓kIAny_s, ↓wi_r1, ↓wi_r2, ↓kR1_eq, ↓kR2_eq, ↓kR2a_eq, ↓we_lc, ↓kLc_eq, ↓kLcE_eq, ↓kLcF_eq, ↓kLcR_eq, ↓kLcT_eq, ↓kLcB_t, ↓kLcB_f, ↓wt_yes, ↓ws_skip, ↓ws_seq, ↓kSeq_nx, ↓kSeq_rt, ↓kSeq_bk, ↓kSeq_ct, ↓ws_expr, ↓kExpr_eq, ↓ws_set, ↓kSet_eq, ↓kSetL_eq, ↓kSetV_fz, ↓kSetV_own, ↓kSetV_plc, ↓kSetP_own, ↓kSetP_ref, ↓kSetP_fz, ↓ws_asg, ↓kAsg_fz, ↓kAsgB_eq, ↓ws_ret, ↓kRet_fz, ↓kRet_own, ↓kRet_plc, ↓kRetP_own, ↓kRetP_ref, ↓ws_retN, ↓ws_if, ↓kIf_t, ↓kIf_f, ↓ws_brk, ↓ws_cnt, ↓ws_for, ↓kFor_eq, ↓kLoop_nx, ↓kLoop_ct, ↓kLoop_bk, ↓kLoop_rt, ↓kBody_eq, ↓wl_eq, ↓kOwnL_own, ↓kOwnL_ref, ↓ws_setIx, ↓kSI1_eq, ↓kSI2_eq, ↓kSI3_eq, ↓kSI4_eq, ↓kSI5_eq, ↓we_app, ↓kAp0_eq, ↓kAp1_eq, ↓kAp2_eq, ↓kAp3_eq, ↓we_user, ↓kUsr_eq, ↓kUsr1_eq, ↓kUsr2_eq, ↓kUsr3_fz, ↓kUsr3_own, ↓warg_nil, ↓warg_fz, ↓warg_own, ↓warg_plc, ↓kArg1_eq, ↓kArg2_eq, ↓kArgP_own, ↓kArgP_ref, ↓kArgP_fz, ↓kArgP_rfz, ↓wc_run, ↓kRun_rt, ↓kRun_nx, ↓kRunR_fz, ↓kRunR_own, ↓wex_nil, ↓wex_fz, ↓wex_ref, ↓wex_rfz, ↓kEx_eq, ↓we_rev, ↓kRev0_eq, ↓kRev_l, ↓wk_eq, ↓kOwnK_own, ↓kOwnK_ref, ↓ws_setKey, ↓kSK1_eq, ↓kSK2_eq, ↓kSK3_eq, ↓kSK4_s, ↓kSK4_i, ↓kSK5_eq, ↓kSK6_eq, ↓we_get1, ↓kG1_eq, ↓kG2_d, ↓kG3_eq, ↓kG4_d, ↓kG5_s, ↓kG5_i, ↓we_get2, ↓kH1_eq, ↓kH2_d, ↓kH3_eq, ↓kH3b_eq, ↓kH4_d, ↓kH5_s, ↓kH5_i, ↓kWh_t, ↓kWh_f, ↓ws_while, ↓we_ext, ↓kEx0_eq, ↓kEx1_eq, ↓kEx3_eq, ↓kJ_nx, ↓kJ_rt, ↓kJ_bk, ↓kJ_ct, ↓kIs_eq, ↓kIsE_eq, wp_some, backSVs_nil, backSVs_cons, lock_unb, lock_fz, lock_own, plain_fz, plain_own, enter_fz, enter_own, put_ownE, put_refE, back_oo, back_of, back_ro, back_rf, back_fz, back_rfz, freeze_own, freeze_ref, freeze_fz, backAt_eq, findSV_nil, findSV_nil2, findSV_plc, findSV_fz, findSV_own, apart_nil, apart_fz, apart_own, apart_plc, placed_nil, placed_fz, placed_own, placed_plc, wipeE_nil, wipeE_cons, backE_nil, backE_cons, unlocked_nil, unlocked_cons, List.set_cons_zero, List.set_cons_succ, List.getD_cons_zero, List.getD_cons_succ, List.getElem?_cons_zero, List.getElem?_cons_succ, List.map_cons, List.map_nil, List.cons_append, List.nil_append, List.replicate_succ, List.replicate_zero, List.length_cons, List.length_nil, List.all_cons, List.all_nil, Nat.reduceSub, Nat.reduceAdd, Nat.reduceLeDiff, Nat.reduceEqDiff, Nat.reduceLT, Nat.zero_add, Bool.not_true, Bool.not_false, Bool.and_true, Bool.true_and, Bool.and_self, and_true, true_and, if_true, reduceIte, reduceCtorEq, decide_true, decide_false, Bool.false_eq_true, Bool.or_false, Bool.or_true, Bool.false_or, Bool.true_or, Bool.and_false, Bool.false_and, Nat.le_refl, lineN, Nat.one_ne_zero, Nat.zero_ne_one, addD_i, subD_i, negD_i, cmpI_i, eqD_i, neD_i, eqD_s, neD_s, eqD_b, neD_b, isD_n, isD_b, isNotD_n, isNotD_b, isBool_b, isNone_n, isNone_b, isNone_i, isNone_s, isNone_l, isNone_t, isNone_d, isi_eq, lenD_l, lenD_t, absD_n, maxD_m, minD_m, intD_i, listD_l, listD_t, tupleD_l, tupleD_t, isiB, mulSD_i, divD_i, modD_i, powD_i, ixD_l, ixD_t, ixD_s, slD_l, slD_t, slD_s, lenD_s, addD_s, addD_l, addD_t, strD_i, wp_bind, wp_guard, atI_0, atI_1, atI_2, atI_3, atI_4, ixN_0, ixN_1, ixN_2, Int.reduceNeg, Int.reduceSub, Int.reduceAdd, listD_s, tupleD_s, mulSD_s, small64_eq, decide_eq_true_eq, or_true, true_or, Int.reducePow, Int.reduceToNat, Int.reduceLE, Int.reduceLT, Int.reduceMul, Int.reduceEq, Int.zero_add, Nat.reducePow, Nat.reduceMul, Int.reduceAbs, rangeD_1, rangeD_2, rangeD_3, sortedD_l, maxLD_l, minLD_l, sumLD_l, reprD_1, ixD_ds, ixD_di, inD_ds, inD_di, notInD_ds, notInD_di, dictPD_l, intsOf_nil, intsOf_cons, Option.bind_some, List.max?_cons', List.min?_cons', List.foldl_cons, List.foldl_nil, kDictb_s, kDictb_int, Int.cast_ofNat_Int, upperD_eq, cutS_S, S_cps, S_len', SX.S_len, SX.S_cat, S_mk, repS_S, inD_S, notInD_S, signD_S, ixD_S, cutG_none, cutG_but, cutD_G, lit_0, lit_1, lit_2, lit_3, lit_4])
      refine wfor_all (fun e => ∃ s5 s6 : SV, (s5.lock = false ∧ s6.lock = false) ∧ e = [.fz (.list (ns.map PyData.int)), .own (penD ns p3 c3), .fz d, .fz (.tuple [.int x, .int y]), .fz (.tuple [.tuple [.int a, .int b], .tuple [.int u, .int v]]), s5, s6]) ⟨_, _, ⟨h5, h6⟩, rfl⟩ (fun d2 hd2 e he => ?_) fun e he => ?_
      · obtain ⟨s5', s6', ⟨h5', h6'⟩, rfl⟩ := he
        obtain ⟨q1, q2, q3⟩ := hds d2 hd2
        have er := reprD_ok q3
        (try simp only [↓wx_0, ↓wx_s, ↓wv_fz, ↓wv_own, ↓wv_plc, ↓kView_fz, ↓kView_own, ↓kView_ref, ↓kView_rfz, ↓wf_fz, ↓wf_own, ↓wf_plc, ↓kFix_fz, ↓kFix_rfz, ↓kFix_own, ↓kFix_ref, ↓we_lit, ↓we_slot, ↓kSlot_fz, ↓kSlot_rfz, ↓kSlot_own, ↓kSlot_ref, ↓wa_nil, ↓wa_cons, ↓kCons1_eq, ↓kCons2_eq, ↓wvs_nil, ↓wvs_cons, ↓kVs1_eq, ↓kVs2_eq, ↓we_op2, ↓kOp2a_eq, ↓kOp2b_eq, ↓kOp2c_eq, ↓kOp2d_eq, ↓we_op1, ↓kOp1a_eq, ↓kOp1b_eq, ↓we_call, ↓kCalla_eq, ↓kCallb_eq, ↓wt_asT, ↓kAsT_eq, ↓wt_and, ↓wt_or, ↓wt_not, ↓kAnd_t, ↓kAnd_f, ↓kOr_t, ↓kOr_f, ↓kNot_eq, ↓we_eT, ↓kET_eq, ↓we_if, ↓kIfE_t, ↓kIfE_f, ↓we_chain, ↓kCh1_eq, ↓kCh2_eq, ↓kCh3_eq, ↓kCh4_eq, ↓kCh5_t, ↓kCh5_f, ↓wfs_nil, ↓wfs_cons, ↓kFs1_eq, ↓kFs2_eq, ↓we_tup, ↓we_lst, ↓kTup_eq, ↓kTupb_eq, ↓kLst_eq, ↓kLstb_eq, ↓we_dict, ↓kDict_eq, ↓kDictb_nil, ↓we_dictT, ↓kDictT_eq, ↓kDictTb_2, ↓wa_pairs0, ↓wa_pairs, ↓wo_no, ↓wo_sm, ↓kSm_eq, ↓we_sl, ↓kSl1_eq, ↓kSl2_eq, ↓kSl3_eq, ↓kSl4_eq, ↓we_m0, ↓we_m1, ↓kM0_eq, ↓kM1_eq, ↓kM1b_eq, ↓kM1c_eq, ↓wg_slot, ↓kGSlot_eq, ↓wgs_nil, ↓wgs_cons, ↓kGs_eq, ↓wg_unp, ↓wi_any, ↓kIAnyA_eq, ↓kIAny_l, ↓kIAny_t, ↓kIAny_s, ↓wi_r1, ↓wi_r2, ↓kR1_eq, ↓kR2_eq, ↓kR2a_eq, ↓we_lc, ↓kLc_eq, ↓kLcE_eq, ↓kLcF_eq, ↓kLcR_eq, ↓kLcT_eq, ↓kLcB_t, ↓kLcB_f, ↓wt_yes, ↓ws_skip, ↓ws_seq, ↓kSeq_nx, ↓kSeq_rt, ↓kSeq_bk, ↓kSeq_ct, ↓ws_expr, ↓kExpr_eq, ↓ws_set, ↓kSet_eq, ↓kSetL_eq, ↓kSetV_fz, ↓kSetV_own, ↓kSetV_plc, ↓kSetP_own, ↓kSetP_ref, ↓kSetP_fz, ↓ws_asg, ↓kAsg_fz, ↓kAsgB_eq, ↓ws_ret, ↓kRet_fz, ↓kRet_own, ↓kRet_plc, ↓kRetP_own, ↓kRetP_ref, ↓ws_retN, ↓ws_if, ↓kIf_t, ↓kIf_f, ↓ws_brk, ↓ws_cnt, ↓ws_for, ↓kFor_eq, ↓kLoop_nx, ↓kLoop_ct, ↓kLoop_bk, ↓kLoop_rt, ↓kBody_eq, ↓wl_eq, ↓kOwnL_own, ↓kOwnL_ref, ↓ws_setIx, ↓kSI1_eq, ↓kSI2_eq, ↓kSI3_eq, ↓kSI4_eq, ↓kSI5_eq, ↓we_app, ↓kAp0_eq, ↓kAp1_eq, ↓kAp2_eq, ↓kAp3_eq, ↓we_user, ↓kUsr_eq, ↓kUsr1_eq, ↓kUsr2_eq, ↓kUsr3_fz, ↓kUsr3_own, ↓warg_nil, ↓warg_fz, ↓warg_own, ↓warg_plc, ↓kArg1_eq, ↓kArg2_eq, ↓kArgP_own, ↓kArgP_ref, ↓kArgP_fz, ↓kArgP_rfz, ↓wc_run, ↓kRun_rt, ↓kRun_nx, ↓kRunR_fz, ↓kRunR_own, ↓wex_nil, ↓wex_fz, ↓wex_ref, ↓wex_rfz, ↓kEx_eq, ↓we_rev, ↓kRev0_eq, ↓kRev_l, ↓wk_eq, ↓kOwnK_own, ↓kOwnK_ref, ↓ws_setKey, ↓kSK1_eq, ↓kSK2_eq, ↓kSK3_eq, ↓kSK4_s, ↓kSK4_i, ↓kSK5_eq, ↓kSK6_eq, ↓we_get1, ↓kG1_eq, ↓kG2_d, ↓kG3_eq, ↓kG4_d, ↓kG5_s, ↓kG5_i, ↓we_get2, ↓kH1_eq, ↓kH2_d, ↓kH3_eq, ↓kH3b_eq, ↓kH4_d, ↓kH5_s, ↓kH5_i, ↓kWh_t, ↓kWh_f, ↓ws_while, ↓we_ext, ↓kEx0_eq, ↓kEx1_eq, ↓kEx3_eq, ↓kJ_nx, ↓kJ_rt, ↓kJ_bk, ↓kJ_ct, ↓kIs_eq, ↓kIsE_eq, wp_some, backSVs_nil, backSVs_cons, lock_unb, lock_fz, lock_own, plain_fz, plain_own, enter_fz, enter_own, put_ownE, put_refE, back_oo, back_of, back_ro, back_rf, back_fz, back_rfz, freeze_own, freeze_ref, freeze_fz, backAt_eq, findSV_nil, findSV_nil2, findSV_plc, findSV_fz, findSV_own, apart_nil, apart_fz, apart_own, apart_plc, placed_nil, placed_fz, placed_own, placed_plc, wipeE_nil, wipeE_cons, backE_nil, backE_cons, unlocked_nil, unlocked_cons, List.set_cons_zero, List.set_cons_succ, List.getD_cons_zero, List.getD_cons_succ, List.getElem?_cons_zero, List.getElem?_cons_succ, List.map_cons, List.map_nil, List.cons_append, List.nil_append, List.replicate_succ, List.replicate_zero, List.length_cons, List.length_nil, List.all_cons, List.all_nil, Nat.reduceSub, Nat.reduceAdd, Nat.reduceLeDiff, Nat.reduceEqDiff, Nat.reduceLT, Nat.zero_add, Bool.not_true, Bool.not_false, Bool.and_true, Bool.true_and, Bool.and_self, and_true, true_and, if_true, reduceIte, reduceCtorEq, decide_true, decide_false, Bool.false_eq_true, Bool.or_false, Bool.or_true, Bool.false_or, Bool.true_or, Bool.and_false, Bool.false_and, Nat.le_refl, lineN, Nat.one_ne_zero, Nat.zero_ne_one, addD_i, subD_i, negD_i, cmpI_i, eqD_i, neD_i, eqD_s, neD_s, eqD_b, neD_b, isD_n, isD_b, isNotD_n, isNotD_b, isBool_b, isNone_n, isNone_b, isNone_i, isNone_s, isNone_l, isNone_t, isNone_d, isi_eq, lenD_l, lenD_t, absD_n, maxD_m, minD_m, intD_i, listD_l, listD_t, tupleD_l, tupleD_t, isiB, mulSD_i, divD_i, modD_i, powD_i, ixD_l, ixD_t, ixD_s, slD_l, slD_t, slD_s, lenD_s, addD_s, addD_l, addD_t, strD_i, wp_bind, wp_guard, atI_0, atI_1, atI_2, atI_3, atI_4, ixN_0, ixN_1, ixN_2, Int.reduceNeg, Int.reduceSub, Int.reduceAdd, listD_s, tupleD_s, mulSD_s, small64_eq, decide_eq_true_eq, or_true, true_or, Int.reducePow, Int.reduceToNat, Int.reduceLE, Int.reduceLT, Int.reduceMul, Int.reduceEq, Int.zero_add, Nat.reducePow, Nat.reduceMul, Int.reduceAbs, rangeD_1, rangeD_2, rangeD_3, sortedD_l, maxLD_l, minLD_l, sumLD_l, reprD_1, ixD_ds, ixD_di, inD_ds, inD_di, notInD_ds, notInD_di, dictPD_l, intsOf_nil, intsOf_cons, Option.bind_some, List.max?_cons', List.min?_cons', List.foldl_cons, List.foldl_nil, kDictb_s, kDictb_int, Int.cast_ofNat_Int, upperD_eq, cutS_S, S_cps, S_len', SX.S_len, SX.S_cat, S_mk, repS_S, inD_S, notInD_S, signD_S, ixD_S, cutG_none, cutG_but, cutD_G, lit_0, lit_1, lit_2, lit_3, lit_4, h5', h6', er])
        refine isspot_any q2 ?_
        (try simp only [↓wx_0, ↓wx_s, ↓wv_fz, ↓wv_own, ↓wv_plc, ↓kView_fz, ↓kView_own, ↓kView_ref, ↓kView_rfz, ↓wf_fz, ↓wf_own, ↓wf_plc, ↓kFix_fz, ↓kFix_rfz, ↓kFix_own, ↓kFix_ref, ↓we_lit, ↓we_slot, ↓kSlot_fz, ↓kSlot_rfz, ↓kSlot_own, ↓kSlot_ref, ↓wa_nil, ↓wa_cons, ↓kCons1_eq, ↓kCons2_eq, ↓wvs_nil, ↓wvs_cons, ↓kVs1_eq, ↓kVs2_eq, ↓we_op2, ↓kOp2a_eq, ↓kOp2b_eq, ↓kOp2c_eq, ↓kOp2d_eq, ↓we_op1, ↓kOp1a_eq, ↓kOp1b_eq, ↓we_call, ↓kCalla_eq, ↓kCallb_eq, ↓wt_asT, ↓kAsT_eq, ↓wt_and, ↓wt_or, ↓wt_not, ↓kAnd_t, ↓kAnd_f, ↓kOr_t, ↓kOr_f, ↓kNot_eq, ↓we_eT, ↓kET_eq, ↓we_if, ↓kIfE_t, ↓kIfE_f, ↓we_chain, ↓kCh1_eq, ↓kCh2_eq, ↓kCh3_eq, ↓kCh4_eq, ↓kCh5_t, ↓kCh5_f, ↓wfs_nil, ↓wfs_cons, ↓kFs1_eq, ↓kFs2_eq, ↓we_tup, ↓we_lst, ↓kTup_eq, ↓kTupb_eq, ↓kLst_eq, ↓kLstb_eq, ↓we_dict, ↓kDict_eq, ↓kDictb_nil, ↓we_dictT, ↓kDictT_eq, ↓kDictTb_2, ↓wa_pairs0, ↓wa_pairs, ↓wo_no, ↓wo_sm, ↓kSm_eq, ↓we_sl, ↓kSl1_eq, ↓kSl2_eq, ↓kSl3_eq, ↓kSl4_eq, ↓we_m0, ↓we_m1, ↓kM0_eq, ↓kM1_eq, ↓kM1b_eq, ↓kM1c_eq, ↓wg_slot, ↓kGSlot_eq, ↓wgs_nil, ↓wgs_cons, ↓kGs_eq, ↓wg_unp, ↓wi_any, ↓kIAnyA_eq, ↓kIAny_l, ↓kIAny_t, ↓kIAny_s, ↓wi_r1, ↓wi_r2, ↓kR1_eq, ↓kR2_eq, ↓kR2a_eq, ↓we_lc, ↓kLc_eq, ↓kLcE_eq, ↓kLcF_eq, ↓kLcR_eq, ↓kLcT_eq, ↓kLcB_t, ↓kLcB_f, ↓wt_yes, ↓ws_skip, ↓ws_seq, ↓kSeq_nx, ↓kSeq_rt, ↓kSeq_bk, ↓kSeq_ct, ↓ws_expr, ↓kExpr_eq, ↓ws_set, ↓kSet_eq, ↓kSetL_eq, ↓kSetV_fz, ↓kSetV_own, ↓kSetV_plc, ↓kSetP_own, ↓kSetP_ref, ↓kSetP_fz, ↓ws_asg, ↓kAsg_fz, ↓kAsgB_eq, ↓ws_ret, ↓kRet_fz, ↓kRet_own, ↓kRet_plc, ↓kRetP_own, ↓kRetP_ref, ↓ws_retN, ↓ws_if, ↓kIf_t, ↓kIf_f, ↓ws_brk, ↓ws_cnt, ↓ws_for, ↓kFor_eq, ↓kLoop_nx, ↓kLoop_ct, ↓kLoop_bk, ↓kLoop_rt, ↓kBody_eq, ↓wl_eq, ↓kOwnL_own, ↓kOwnL_ref, ↓ws_setIx, ↓kSI1_eq, ↓kSI2_eq, ↓kSI3_eq, ↓kSI4_eq, ↓kSI5_eq, ↓we_app, ↓kAp0_eq, ↓kAp1_eq, ↓kAp2_eq, ↓kAp3_eq, ↓we_user, ↓kUsr_eq, ↓kUsr1_eq, ↓kUsr2_eq, ↓kUsr3_fz, ↓kUsr3_own, ↓warg_nil, ↓warg_fz, ↓warg_own, ↓warg_plc, ↓kArg1_eq, ↓kArg2_eq, ↓kArgP_own, ↓kArgP_ref, ↓kArgP_fz, ↓kArgP_rfz, ↓wc_run, ↓kRun_rt, ↓kRun_nx, ↓kRunR_fz, ↓kRunR_own, ↓wex_nil, ↓wex_fz, ↓wex_ref, ↓wex_rfz, ↓kEx_eq, ↓we_rev, ↓kRev0_eq, ↓kRev_l, ↓wk_eq, ↓kOwnK_own, ↓kOwnK_ref, ↓ws_setKey, ↓kSK1_eq, ↓kSK2_eq, ↓kSK3_eq, ↓kSK4_s, ↓kSK4_i, ↓kSK5_eq, ↓kSK6_eq, ↓we_get1, ↓kG1_eq, ↓kG2_d, ↓kG3_eq, ↓kG4_d, ↓kG5_s, ↓kG5_i, ↓we_get2, ↓kH1_eq, ↓kH2_d, ↓kH3_eq, ↓kH3b_eq, ↓kH4_d, ↓kH5_s, ↓kH5_i, ↓kWh_t, ↓kWh_f, ↓ws_while, ↓we_ext, ↓kEx0_eq, ↓kEx1_eq, ↓kEx3_eq, ↓kJ_nx, ↓kJ_rt, ↓kJ_bk, ↓kJ_ct, ↓kIs_eq, ↓kIsE_eq, wp_some, backSVs_nil, backSVs_cons, lock_unb, lock_fz, lock_own, plain_fz, plain_own, enter_fz, enter_own, put_ownE, put_refE, back_oo, back_of, back_ro, back_rf, back_fz, back_rfz, freeze_own, freeze_ref, freeze_fz, backAt_eq, findSV_nil, findSV_nil2, findSV_plc, findSV_fz, findSV_own, apart_nil, apart_fz, apart_own, apart_plc, placed_nil, placed_fz, placed_own, placed_plc, wipeE_nil, wipeE_cons, backE_nil, backE_cons, unlocked_nil, unlocked_cons, List.set_cons_zero, List.set_cons_succ, List.getD_cons_zero, List.getD_cons_succ, List.getElem?_cons_zero, List.getElem?_cons_succ, List.map_cons, List.map_nil, List.cons_append, List.nil_append, List.replicate_succ, List.replicate_zero, List.length_cons, List.length_nil, List.all_cons, List.all_nil, Nat.reduceSub, Nat.reduceAdd, Nat.reduceLeDiff, Nat.reduceEqDiff, Nat.reduceLT, Nat.zero_add, Bool.not_true, Bool.not_false, Bool.and_true, Bool.true_and, Bool.and_self, and_true, true_and, if_true, reduceIte, reduceCtorEq, decide_true, decide_false, Bool.false_eq_true, Bool.or_false, Bool.or_true, Bool.false_or, Bool.true_or, Bool.and_false, Bool.false_and, Nat.le_refl, lineN, Nat.one_ne_zero, Nat.zero_ne_one, addD_i, subD_i, negD_i, cmpI_i, eqD_i, neD_i, eqD_s, neD_s, eqD_b, neD_b, isD_n, isD_b, isNotD_n, isNotD_b, isBool_b, isNone_n, isNone_b, isNone_i, isNone_s, isNone_l, isNone_t, isNone_d, isi_eq, lenD_l, lenD_t, absD_n, maxD_m, minD_m, intD_i, listD_l, listD_t, tupleD_l, tupleD_t, isiB, mulSD_i, divD_i, modD_i, powD_i, ixD_l, ixD_t, ixD_s, slD_l, slD_t, slD_s, lenD_s, addD_s, addD_l, addD_t, strD_i, wp_bind, wp_guard, atI_0, atI_1, atI_2, atI_3, atI_4, ixN_0, ixN_1, ixN_2, Int.reduceNeg, Int.reduceSub, Int.reduceAdd, listD_s, tupleD_s, mulSD_s, small64_eq, decide_eq_true_eq, or_true, true_or, Int.reducePow, Int.reduceToNat, Int.reduceLE, Int.reduceLT, Int.reduceMul, Int.reduceEq, Int.zero_add, Nat.reducePow, Nat.reduceMul, Int.reduceAbs, rangeD_1, rangeD_2, rangeD_3, sortedD_l, maxLD_l, minLD_l, sumLD_l, reprD_1, ixD_ds, ixD_di, inD_ds, inD_di, notInD_ds, notInD_di, dictPD_l, intsOf_nil, intsOf_cons, Option.bind_some, List.max?_cons', List.min?_cons', List.foldl_cons, List.foldl_nil, kDictb_s, kDictb_int, Int.cast_ofNat_Int, upperD_eq, cutS_S, S_cps, S_len', SX.S_len, SX.S_cat, S_mk, repS_S, inD_S, notInD_S, signD_S, ixD_S, cutG_none, cutG_but, cutD_G, lit_0, lit_1, lit_2, lit_3, lit_4, q1, er, beq_self_eq_true])
        exact ⟨_, _, ⟨rfl, rfl⟩, rfl⟩
      · obtain ⟨s5', s6', ⟨h5', h6'⟩, rfl⟩ := he
        (try simp only [↓wx_0, ↓wx_s, ↓wv_fz, ↓wv_own, ↓wv_plc, ↓kView_fz, ↓kView_own, ↓kView_ref, ↓kView_rfz, ↓wf_fz, ↓wf_own, ↓wf_plc, ↓kFix_fz, ↓kFix_rfz, ↓kFix_own, ↓kFix_ref, ↓we_lit, ↓we_slot, ↓kSlot_fz, ↓kSlot_rfz, ↓kSlot_own, ↓kSlot_ref, ↓wa_nil, ↓wa_cons, ↓kCons1_eq, ↓kCons2_eq, ↓wvs_nil, ↓wvs_cons, ↓kVs1_eq, ↓kVs2_eq, ↓we_op2, ↓kOp2a_eq, ↓kOp2b_eq, ↓kOp2c_eq, ↓kOp2d_eq, ↓we_op1, ↓kOp1a_eq, ↓kOp1b_eq, ↓we_call, ↓kCalla_eq, ↓kCallb_eq, ↓wt_asT, ↓kAsT_eq, ↓wt_and, ↓wt_or, ↓wt_not, ↓kAnd_t, ↓kAnd_f, ↓kOr_t, ↓kOr_f, ↓kNot_eq, ↓we_eT, ↓kET_eq, ↓we_if, ↓kIfE_t, ↓kIfE_f, ↓we_chain, ↓kCh1_eq, ↓kCh2_eq, ↓kCh3_eq, ↓kCh4_eq, ↓kCh5_t, ↓kCh5_f, ↓wfs_nil, ↓wfs_cons, ↓kFs1_eq, ↓kFs2_eq, ↓we_tup, ↓we_lst, ↓kTup_eq, ↓kTupb_eq, ↓kLst_eq, ↓kLstb_eq, ↓we_dict, ↓kDict_eq, ↓kDictb_nil, ↓we_dictT, ↓kDictT_eq, ↓kDictTb_2, ↓wa_pairs0, ↓wa_pairs, ↓wo_no, ↓wo_sm, ↓kSm_eq, ↓we_sl, ↓kSl1_eq, ↓kSl2_eq, ↓kSl3_eq, ↓kSl4_eq, ↓we_m0, ↓we_m1, ↓kM0_eq, ↓kM1_eq, ↓kM1b_eq, ↓kM1c_eq, ↓wg_slot, ↓kGSlot_eq, ↓wgs_nil, ↓wgs_cons, ↓kGs_eq, ↓wg_unp, ↓wi_any, ↓kIAnyA_eq, ↓kIAny_l, ↓kIAny_t, ↓kIAny_s, ↓wi_r1, ↓wi_r2, ↓kR1_eq, ↓kR2_eq, ↓kR2a_eq, ↓we_lc, ↓kLc_eq, ↓kLcE_eq, ↓kLcF_eq, ↓kLcR_eq, ↓kLcT_eq, ↓kLcB_t, ↓kLcB_f, ↓wt_yes, ↓ws_skip, ↓ws_seq, ↓kSeq_nx, ↓kSeq_rt, ↓kSeq_bk, ↓kSeq_ct, ↓ws_expr, ↓kExpr_eq, ↓ws_set, ↓kSet_eq, ↓kSetL_eq, ↓kSetV_fz, ↓kSetV_own, ↓kSetV_plc, ↓kSetP_own, ↓kSetP_ref, ↓kSetP_fz, ↓ws_asg, ↓kAsg_fz, ↓kAsgB_eq, ↓ws_ret, ↓kRet_fz, ↓kRet_own, ↓kRet_plc, ↓kRetP_own, ↓kRetP_ref, ↓ws_retN, ↓ws_if, ↓kIf_t, ↓kIf_f, ↓ws_brk, ↓ws_cnt, ↓ws_for, ↓kFor_eq, ↓kLoop_nx, ↓kLoop_ct, ↓kLoop_bk, ↓kLoop_rt, ↓kBody_eq, ↓wl_eq, ↓kOwnL_own, ↓kOwnL_ref, ↓ws_setIx, ↓kSI1_eq, ↓kSI2_eq, ↓kSI3_eq, ↓kSI4_eq, ↓kSI5_eq, ↓we_app, ↓kAp0_eq, ↓kAp1_eq, ↓kAp2_eq, ↓kAp3_eq, ↓we_user, ↓kUsr_eq, ↓kUsr1_eq, ↓kUsr2_eq, ↓kUsr3_fz, ↓kUsr3_own, ↓warg_nil, ↓warg_fz, ↓warg_own, ↓warg_plc, ↓kArg1_eq, ↓kArg2_eq, ↓kArgP_own, ↓kArgP_ref, ↓kArgP_fz, ↓kArgP_rfz, ↓wc_run, ↓kRun_rt, ↓kRun_nx, ↓kRunR_fz, ↓kRunR_own, ↓wex_nil, ↓wex_fz, ↓wex_ref, ↓wex_rfz, ↓kEx_eq, ↓we_rev, ↓kRev0_eq, ↓kRev_l, ↓wk_eq, ↓kOwnK_own, ↓kOwnK_ref, ↓ws_setKey, ↓kSK1_eq, ↓kSK2_eq, ↓kSK3_eq, ↓kSK4_s, ↓kSK4_i, ↓kSK5_eq, ↓kSK6_eq, ↓we_get1, ↓kG1_eq, ↓kG2_d, ↓kG3_eq, ↓kG4_d, ↓kG5_s, ↓kG5_i, ↓we_get2, ↓kH1_eq, ↓kH2_d, ↓kH3_eq, ↓kH3b_eq, ↓kH4_d, ↓kH5_s, ↓kH5_i, ↓kWh_t, ↓kWh_f, ↓ws_while, ↓we_ext, ↓kEx0_eq, ↓kEx1_eq, ↓kEx3_eq, ↓kJ_nx, ↓kJ_rt, ↓kJ_bk, ↓kJ_ct, ↓kIs_eq, ↓kIsE_eq, wp_some, backSVs_nil, backSVs_cons, lock_unb, lock_fz, lock_own, plain_fz, plain_own, enter_fz, enter_own, put_ownE, put_refE, back_oo, back_of, back_ro, back_rf, back_fz, back_rfz, freeze_own, freeze_ref, freeze_fz, backAt_eq, findSV_nil, findSV_nil2, findSV_plc, findSV_fz, findSV_own, apart_nil, apart_fz, apart_own, apart_plc, placed_nil, placed_fz, placed_own, placed_plc, wipeE_nil, wipeE_cons, backE_nil, backE_cons, unlocked_nil, unlocked_cons, List.set_cons_zero, List.set_cons_succ, List.getD_cons_zero, List.getD_cons_succ, List.getElem?_cons_zero, List.getElem?_cons_succ, List.map_cons, List.map_nil, List.cons_append, List.nil_append, List.replicate_succ, List.replicate_zero, List.length_cons, List.length_nil, List.all_cons, List.all_nil, Nat.reduceSub, Nat.reduceAdd, Nat.reduceLeDiff, Nat.reduceEqDiff, Nat.reduceLT, Nat.zero_add, Bool.not_true, Bool.not_false, Bool.and_true, Bool.true_and, Bool.and_self, and_true, true_and, if_true, reduceIte, reduceCtorEq, decide_true, decide_false, Bool.false_eq_true, Bool.or_false, Bool.or_true, Bool.false_or, Bool.true_or, Bool.and_false, Bool.false_and, Nat.le_refl, lineN, Nat.one_ne_zero, Nat.zero_ne_one, addD_i, subD_i, negD_i, cmpI_i, eqD_i, neD_i, eqD_s, neD_s, eqD_b, neD_b, isD_n, isD_b, isNotD_n, isNotD_b, isBool_b, isNone_n, isNone_b, isNone_i, isNone_s, isNone_l, isNone_t, isNone_d, isi_eq, lenD_l, lenD_t, absD_n, maxD_m, minD_m, intD_i, listD_l, listD_t, tupleD_l, tupleD_t, isiB, mulSD_i, divD_i, modD_i, powD_i, ixD_l, ixD_t, ixD_s, slD_l, slD_t, slD_s, lenD_s, addD_s, addD_l, addD_t, strD_i, wp_bind, wp_guard, atI_0, atI_1, atI_2, atI_3, atI_4, ixN_0, ixN_1, ixN_2, Int.reduceNeg, Int.reduceSub, Int.reduceAdd, listD_s, tupleD_s, mulSD_s, small64_eq, decide_eq_true_eq, or_true, true_or, Int.reducePow, Int.reduceToNat, Int.reduceLE, Int.reduceLT, Int.reduceMul, Int.reduceEq, Int.zero_add, Nat.reducePow, Nat.reduceMul, Int.reduceAbs, rangeD_1, rangeD_2, rangeD_3, sortedD_l, maxLD_l, minLD_l, sumLD_l, reprD_1, ixD_ds, ixD_di, inD_ds, inD_di, notInD_ds, notInD_di, dictPD_l, intsOf_nil, intsOf_cons, Option.bind_some, List.max?_cons', List.min?_cons', List.foldl_cons, List.foldl_nil, kDictb_s, kDictb_int, Int.cast_ofNat_Int, upperD_eq, cutS_S, S_cps, S_len', SX.S_len, SX.S_cat, S_mk, repS_S, inD_S, notInD_S, signD_S, ixD_S, cutG_none, cutG_but, cutD_G, lit_0, lit_1, lit_2, lit_3, lit_4])
        refine no_boxes_ok ha hb hu hv hau hbv fun p4 c4 ds4 hds4 => ?_
        (try simp only [↓wx_0, ↓wx_s, ↓wv_fz, ↓wv_own, ↓wv_plc, ↓kView_fz, ↓kView_own, ↓kView_ref, ↓kView_rfz, ↓wf_fz, ↓wf_own, ↓wf_plc, ↓kFix_fz, ↓kFix_rfz, ↓kFix_own, ↓kFix_ref, ↓we_lit, ↓we_slot, ↓kSlot_fz, ↓kSlot_rfz, ↓kSlot_own, ↓kSlot_ref, ↓wa_nil, ↓wa_cons, ↓kCons1_eq, ↓kCons2_eq, ↓wvs_nil, ↓wvs_cons, ↓kVs1_eq, ↓kVs2_eq, ↓we_op2, ↓kOp2a_eq, ↓kOp2b_eq, ↓kOp2c_eq, ↓kOp2d_eq, ↓we_op1, ↓kOp1a_eq, ↓kOp1b_eq, ↓we_call, ↓kCalla_eq, ↓kCallb_eq, ↓wt_asT, ↓kAsT_eq, ↓wt_and, ↓wt_or, ↓wt_not, ↓kAnd_t, ↓kAnd_f, ↓kOr_t, ↓kOr_f, ↓kNot_eq, ↓we_eT, ↓kET_eq, ↓we_if, ↓kIfE_t, ↓kIfE_f, ↓we_chain, ↓kCh1_eq, ↓kCh2_eq, ↓kCh3_eq, ↓kCh4_eq, ↓kCh5_t, ↓kCh5_f, ↓wfs_nil, ↓wfs_cons, ↓kFs1_eq, ↓kFs2_eq, ↓we_tup, ↓we_lst, ↓kTup_eq, ↓kTupb_eq, ↓kLst_eq, ↓kLstb_eq, ↓we_dict, ↓kDict_eq, ↓kDictb_nil, ↓we_dictT, ↓kDictT_eq, ↓kDictTb_2, ↓wa_pairs0, ↓wa_pairs, ↓wo_no, ↓wo_sm, ↓kSm_eq, ↓we_sl, ↓kSl1_eq, ↓kSl2_eq, ↓kSl3_eq, ↓kSl4_eq, ↓we_m0, ↓we_m1, ↓kM0_eq, ↓kM1_eq, ↓kM1b_eq, ↓kM1c_eq, ↓wg_slot, ↓kGSlot_eq, ↓wgs_nil, ↓wgs_cons, ↓kGs_eq, ↓wg_unp, ↓wi_any, ↓kIAnyA_eq, ↓kIAny_l, ↓kIAny_t, ↓kIAny_s, ↓wi_r1, ↓wi_r2, ↓kR1_eq, ↓kR2_eq, ↓kR2a_eq, ↓we_lc, ↓kLc_eq, ↓kLcE_eq, ↓kLcF_eq, ↓kLcR_eq, ↓kLcT_eq, ↓kLcB_t, ↓kLcB_f, ↓wt_yes, ↓ws_skip, ↓ws_seq, ↓kSeq_nx, ↓kSeq_rt, ↓kSeq_bk, ↓kSeq_ct, ↓ws_expr, ↓kExpr_eq, ↓ws_set, ↓kSet_eq, ↓kSetL_eq, ↓kSetV_fz, ↓kSetV_own, ↓kSetV_plc, ↓kSetP_own, ↓kSetP_ref, ↓kSetP_fz, ↓ws_asg, ↓kAsg_fz, ↓kAsgB_eq, ↓ws_ret, ↓kRet_fz, ↓kRet_own, ↓kRet_plc, ↓kRetP_own, ↓kRetP_ref, ↓ws_retN, ↓ws_if, ↓kIf_t, ↓kIf_f, ↓ws_brk, ↓ws_cnt, ↓ws_for, ↓kFor_eq, ↓kLoop_nx, ↓kLoop_ct, ↓kLoop_bk, ↓kLoop_rt, ↓kBody_eq, ↓wl_eq, ↓kOwnL_own, ↓kOwnL_ref, ↓ws_setIx, ↓kSI1_eq, ↓kSI2_eq, ↓kSI3_eq, ↓kSI4_eq, ↓kSI5_eq, ↓we_app, ↓kAp0_eq, ↓kAp1_eq, ↓kAp2_eq, ↓kAp3_eq, ↓we_user, ↓kUsr_eq, ↓kUsr1_eq, ↓kUsr2_eq, ↓kUsr3_fz, ↓kUsr3_own, ↓warg_nil, ↓warg_fz, ↓warg_own, ↓warg_plc, ↓kArg1_eq, ↓kArg2_eq, ↓kArgP_own, ↓kArgP_ref, ↓kArgP_fz, ↓kArgP_rfz, ↓wc_run, ↓kRun_rt, ↓kRun_nx, ↓kRunR_fz, ↓kRunR_own, ↓wex_nil, ↓wex_fz, ↓wex_ref, ↓wex_rfz, ↓kEx_eq, ↓we_rev, ↓kRev0_eq, ↓kRev_l, ↓wk_eq, ↓kOwnK_own, ↓kOwnK_ref, ↓ws_setKey, ↓kSK1_eq, ↓kSK2_eq, ↓kSK3_eq, ↓kSK4_s, ↓kSK4_i, ↓kSK5_eq, ↓kSK6_eq, ↓we_get1, ↓kG1_eq, ↓kG2_d, ↓kG3_eq, ↓kG4_d, ↓kG5_s, ↓kG5_i, ↓we_get2, ↓kH1_eq, ↓kH2_d, ↓kH3_eq, ↓kH3b_eq, ↓kH4_d, ↓kH5_s, ↓kH5_i, ↓kWh_t, ↓kWh_f, ↓ws_while, ↓we_ext, ↓kEx0_eq, ↓kEx1_eq, ↓kEx3_eq, ↓kJ_nx, ↓kJ_rt, ↓kJ_bk, ↓kJ_ct, ↓kIs_eq, ↓kIsE_eq, wp_some, backSVs_nil, backSVs_cons, lock_unb, lock_fz, lock_own, plain_fz, plain_own, enter_fz, enter_own, put_ownE, put_refE, back_oo, back_of, back_ro, back_rf, back_fz, back_rfz, freeze_own, freeze_ref, freeze_fz, backAt_eq, findSV_nil, findSV_nil2, findSV_plc, findSV_fz, findSV_own, apart_nil, apart_fz, apart_own, apart_plc, placed_nil, placed_fz, placed_own, placed_plc, wipeE_nil, wipeE_cons, backE_nil, backE_cons, unlocked_nil, unlocked_cons, List.set_cons_zero, List.set_cons_succ, List.getD_cons_zero, List.getD_cons_succ, List.getElem?_cons_zero, List.getElem?_cons_succ, List.map_cons, List.map_nil, List.cons_append, List.nil_append, List.replicate_succ, List.replicate_zero, List.length_cons, List.length_nil, List.all_cons, List.all_nil, Nat.reduceSub, Nat.reduceAdd, Nat.reduceLeDiff, Nat.reduceEqDiff, Nat.reduceLT, Nat.zero_add, Bool.not_true, Bool.not_false, Bool.and_true, Bool.true_and, Bool.and_self, and_true, true_and, if_true, reduceIte, reduceCtorEq, decide_true, decide_false, Bool.false_eq_true, Bool.or_false, Bool.or_true, Bool.false_or, Bool.true_or, Bool.and_false, Bool.false_and, Nat.le_refl, lineN, Nat.one_ne_zero, Nat.zero_ne_one, addD_i, subD_i, negD_i, cmpI_i, eqD_i, neD_i, eqD_s, neD_s, eqD_b, neD_b, isD_n, isD_b, isNotD_n, isNotD_b, isBool_b, isNone_n, isNone_b, isNone_i, isNone_s, isNone_l, isNone_t, isNone_d, isi_eq, lenD_l, lenD_t, absD_n, maxD_m, minD_m, intD_i, listD_l, listD_t, tupleD_l, tupleD_t, isiB, mulSD_i, divD_i, modD_i, powD_i, ixD_l, ixD_t, ixD_s, slD_l, slD_t, slD_s, lenD_s, addD_s, addD_l, addD_t, strD_i, wp_bind, wp_guard, atI_0, atI_1, atI_2, atI_3, atI_4, ixN_0, ixN_1, ixN_2, Int.reduceNeg, Int.reduceSub, Int.reduceAdd, listD_s, tupleD_s, mulSD_s, small64_eq, decide_eq_true_eq, or_true, true_or, Int.reducePow, Int.reduceToNat, Int.reduceLE, Int.reduceLT, Int.reduceMul, Int.reduceEq, Int.zero_add, Nat.reducePow, Nat.reduceMul, Int.reduceAbs, rangeD_1, rangeD_2, rangeD_3, sortedD_l, maxLD_l, minLD_l, sumLD_l, reprD_1, ixD_ds, ixD_di, inD_ds, inD_di, notInD_ds, notInD_di, dictPD_l, intsOf_nil, intsOf_cons, Option.bind_some, List.max?_cons', List.min?_cons', List.foldl_cons, List.foldl_nil, kDictb_s, kDictb_int, Int.cast_ofNat_Int, upperD_eq, cutS_S, S_cps, S_len', SX.S_len, SX.S_cat, S_mk, repS_S, inD_S, notInD_S, signD_S, ixD_S, cutG_none, cutG_but, cutD_G, lit_0, lit_1, lit_2, lit_3, lit_4])
        refine wfor_all (fun e => ∃ s5 s6 : SV, (s5.lock = false ∧ s6.lock = false) ∧ e = [.fz (.list (ns.map PyData.int)), .own (penD ns p4 c4), .fz d, .fz (.tuple [.int x, .int y]), .fz (.tuple [.tuple [.int a, .int b], .tuple [.int u, .int v]]), s5, s6]) ⟨_, _, ⟨h5', h6'⟩, rfl⟩ (fun d2 hd2 e he => ?_) fun e he => ?_
        · obtain ⟨s5'', s6'', ⟨h5'', h6''⟩, rfl⟩ := he
          obtain ⟨q1, q2, q3⟩ := hds4 d2 hd2
          have er := reprD_ok q3
          (try simp only [↓wx_0, ↓wx_s, ↓wv_fz, ↓wv_own, ↓wv_plc, ↓kView_fz, ↓kView_own, ↓kView_ref, ↓kView_rfz, ↓wf_fz, ↓wf_own, ↓wf_plc, ↓kFix_fz, ↓kFix_rfz, ↓kFix_own, ↓kFix_ref, ↓we_lit, ↓we_slot, ↓kSlot_fz, ↓kSlot_rfz, ↓kSlot_own, ↓kSlot_ref, ↓wa_nil, ↓wa_cons, ↓kCons1_eq, ↓kCons2_eq, ↓wvs_nil, ↓wvs_cons, ↓kVs1_eq, ↓kVs2_eq, ↓we_op2, ↓kOp2a_eq, ↓kOp2b_eq, ↓kOp2c_eq, ↓kOp2d_eq, ↓we_op1, ↓kOp1a_eq, ↓kOp1b_eq, ↓we_call, ↓kCalla_eq, ↓kCallb_eq, ↓wt_asT, ↓kAsT_eq, ↓wt_and, ↓wt_or, ↓wt_not, ↓kAnd_t, ↓kAnd_f, ↓kOr_t, ↓kOr_f, ↓kNot_eq, ↓we_eT, ↓kET_eq, ↓we_if, ↓kIfE_t, ↓kIfE_f, ↓we_chain, ↓kCh1_eq, ↓kCh2_eq, ↓kCh3_eq, ↓kCh4_eq, ↓kCh5_t, ↓kCh5_f, ↓wfs_nil, ↓wfs_cons, ↓kFs1_eq, ↓kFs2_eq, ↓we_tup, ↓we_lst, ↓kTup_eq, ↓kTupb_eq, ↓kLst_eq, ↓kLstb_eq, ↓we_dict, ↓kDict_eq, ↓kDictb_nil, ↓we_dictT, ↓kDictT_eq, ↓kDictTb_2, ↓wa_pairs0, ↓wa_pairs, ↓wo_no, ↓wo_sm, ↓kSm_eq, ↓we_sl, ↓kSl1_eq, ↓kSl2_eq, ↓kSl3_eq, ↓kSl4_eq, ↓we_m0, ↓we_m1, ↓kM0_eq, ↓kM1_eq, ↓kM1b_eq, ↓kM1c_eq, ↓wg_slot, ↓kGSlot_eq, ↓wgs_nil, ↓wgs_cons, ↓kGs_eq, ↓wg_unp, ↓wi_any, ↓kIAnyA_eq, ↓kIAny_l, ↓kIAny_t, ↓kIAny_s, ↓wi_r1, ↓wi_r2, ↓kR1_eq, ↓kR2_eq, ↓kR2a_eq, ↓we_lc, ↓kLc_eq, ↓kLcE_eq, ↓kLcF_eq, ↓kLcR_eq, ↓kLcT_eq, ↓kLcB_t, ↓kLcB_f, ↓wt_yes, ↓ws_skip, ↓ws_seq, ↓kSeq_nx, ↓kSeq_rt, ↓kSeq_bk, ↓kSeq_ct, ↓ws_expr, ↓kExpr_eq, ↓ws_set, ↓kSet_eq, ↓kSetL_eq, ↓kSetV_fz, ↓kSetV_own, ↓kSetV_plc, ↓kSetP_own, ↓kSetP_ref, ↓kSetP_fz, ↓ws_asg, ↓kAsg_fz, ↓kAsgB_eq, ↓ws_ret, ↓kRet_fz, ↓kRet_own, ↓kRet_plc, ↓kRetP_own, ↓kRetP_ref, ↓ws_retN, ↓ws_if, ↓kIf_t, ↓kIf_f, ↓ws_brk, ↓ws_cnt, ↓ws_for, ↓kFor_eq, ↓kLoop_nx, ↓kLoop_ct, ↓kLoop_bk, ↓kLoop_rt, ↓kBody_eq, ↓wl_eq, ↓kOwnL_own, ↓kOwnL_ref, ↓ws_setIx, ↓kSI1_eq, ↓kSI2_eq, ↓kSI3_eq, ↓kSI4_eq, ↓kSI5_eq, ↓we_app, ↓kAp0_eq, ↓kAp1_eq, ↓kAp2_eq, ↓kAp3_eq, ↓we_user, ↓kUsr_eq, ↓kUsr1_eq, ↓kUsr2_eq, ↓kUsr3_fz, ↓kUsr3_own, ↓warg_nil, ↓warg_fz, ↓warg_own, ↓warg_plc, ↓kArg1_eq, ↓kArg2_eq, ↓kArgP_own, ↓kArgP_ref, ↓kArgP_fz, ↓kArgP_rfz, ↓wc_run, ↓kRun_rt, ↓kRun_nx, ↓kRunR_fz, ↓kRunR_own, ↓wex_nil, ↓wex_fz, ↓wex_ref, ↓wex_rfz, ↓kEx_eq, ↓we_rev, ↓kRev0_eq, ↓kRev_l, ↓wk_eq, ↓kOwnK_own, ↓kOwnK_ref, ↓ws_setKey, ↓kSK1_eq, ↓kSK2_eq, ↓kSK3_eq, ↓kSK4_s, ↓kSK4_i, ↓kSK5_eq, ↓kSK6_eq, ↓we_get1, ↓kG1_eq, ↓kG2_d, ↓kG3_eq, ↓kG4_d, ↓kG5_s, ↓kG5_i, ↓we_get2, ↓kH1_eq, ↓kH2_d, ↓kH3_eq, ↓kH3b_eq, ↓kH4_d, ↓kH5_s, ↓kH5_i, ↓kWh_t, ↓kWh_f, ↓ws_while, ↓we_ext, ↓kEx0_eq, ↓kEx1_eq, ↓kEx3_eq, ↓kJ_nx, ↓kJ_rt, ↓kJ_bk, ↓kJ_ct, ↓kIs_eq, ↓kIsE_eq, wp_some, backSVs_nil, backSVs_cons, lock_unb, lock_fz, lock_own, plain_fz, plain_own, enter_fz, enter_own, put_ownE, put_refE, back_oo, back_of, back_ro, back_rf, back_fz, back_rfz, freeze_own, freeze_ref, freeze_fz, backAt_eq, findSV_nil, findSV_nil2, findSV_plc, findSV_fz, findSV_own, apart_nil, apart_fz, apart_own, apart_plc, placed_nil, placed_fz, placed_own, placed_plc, wipeE_nil, wipeE_cons, backE_nil, backE_cons, unlocked_nil, unlocked_cons, List.set_cons_zero, List.set_cons_succ, List.getD_cons_zero, List.getD_cons_succ, List.getElem?_cons_zero, List.getElem?_cons_succ, List.map_cons, List.map_nil, List.cons_append, List.nil_append, List.replicate_succ, List.replicate_zero, List.length_cons, List.length_nil, List.all_cons, List.all_nil, Nat.reduceSub, Nat.reduceAdd, Nat.reduceLeDiff, Nat.reduceEqDiff, Nat.reduceLT, Nat.zero_add, Bool.not_true, Bool.not_false, Bool.and_true, Bool.true_and, Bool.and_self, and_true, true_and, if_true, reduceIte, reduceCtorEq, decide_true, decide_false, Bool.false_eq_true, Bool.or_false, Bool.or_true, Bool.false_or, Bool.true_or, Bool.and_false, Bool.false_and, Nat.le_refl, lineN, Nat.one_ne_zero, Nat.zero_ne_one, addD_i, subD_i, negD_i, cmpI_i, eqD_i, neD_i, eqD_s, neD_s, eqD_b, neD_b, isD_n, isD_b, isNotD_n, isNotD_b, isBool_b, isNone_n, isNone_b, isNone_i, isNone_s, isNone_l, isNone_t, isNone_d, isi_eq, lenD_l, lenD_t, absD_n, maxD_m, minD_m, intD_i, listD_l, listD_t, tupleD_l, tupleD_t, isiB, mulSD_i, divD_i, modD_i, powD_i, ixD_l, ixD_t, ixD_s, slD_l, slD_t, slD_s, lenD_s, addD_s, addD_l, addD_t, strD_i, wp_bind, wp_guard, atI_0, atI_1, atI_2, atI_3, atI_4, ixN_0, ixN_1, ixN_2, Int.reduceNeg, Int.reduceSub, Int.reduceAdd, listD_s, tupleD_s, mulSD_s, small64_eq, decide_eq_true_eq, or_true, true_or, Int.reducePow, Int.reduceToNat, Int.reduceLE, Int.reduceLT, Int.reduceMul, Int.reduceEq, Int.zero_add, Nat.reducePow, Nat.reduceMul, Int.reduceAbs, rangeD_1, rangeD_2, rangeD_3, sortedD_l, maxLD_l, minLD_l, sumLD_l, reprD_1, ixD_ds, ixD_di, inD_ds, inD_di, notInD_ds, notInD_di, dictPD_l, intsOf_nil, intsOf_cons, Option.bind_some, List.max?_cons', List.min?_cons', List.foldl_cons, List.foldl_nil, kDictb_s, kDictb_int, Int.cast_ofNat_Int, upperD_eq, cutS_S, S_cps, S_len', SX.S_len, SX.S_cat, S_mk, repS_S, inD_S, notInD_S, signD_S, ixD_S, cutG_none, cutG_but, cutD_G, lit_0, lit_1, lit_2, lit_3, lit_4, h5'', h6'', er])
          refine isbox_any q2 ?_
          (try simp only [↓wx_0, ↓wx_s, ↓wv_fz, ↓wv_own, ↓wv_plc, ↓kView_fz, ↓kView_own, ↓kView_ref, ↓kView_rfz, ↓wf_fz, ↓wf_own, ↓wf_plc, ↓kFix_fz, ↓kFix_rfz, ↓kFix_own, ↓kFix_ref, ↓we_lit, ↓we_slot, ↓kSlot_fz, ↓kSlot_rfz, ↓kSlot_own, ↓kSlot_ref, ↓wa_nil, ↓wa_cons, ↓kCons1_eq, ↓kCons2_eq, ↓wvs_nil, ↓wvs_cons, ↓kVs1_eq, ↓kVs2_eq, ↓we_op2, ↓kOp2a_eq, ↓kOp2b_eq, ↓kOp2c_eq, ↓kOp2d_eq, ↓we_op1, ↓kOp1a_eq, ↓kOp1b_eq, ↓we_call, ↓kCalla_eq, ↓kCallb_eq, ↓wt_asT, ↓kAsT_eq, ↓wt_and, ↓wt_or, ↓wt_not, ↓kAnd_t, ↓kAnd_f, ↓kOr_t, ↓kOr_f, ↓kNot_eq, ↓we_eT, ↓kET_eq, ↓we_if, ↓kIfE_t, ↓kIfE_f, ↓we_chain, ↓kCh1_eq, ↓kCh2_eq, ↓kCh3_eq, ↓kCh4_eq, ↓kCh5_t, ↓kCh5_f, ↓wfs_nil, ↓wfs_cons, ↓kFs1_eq, ↓kFs2_eq, ↓we_tup, ↓we_lst, ↓kTup_eq, ↓kTupb_eq, ↓kLst_eq, ↓kLstb_eq, ↓we_dict, ↓kDict_eq, ↓kDictb_nil, ↓we_dictT, ↓kDictT_eq, ↓kDictTb_2, ↓wa_pairs0, ↓wa_pairs, ↓wo_no, ↓wo_sm, ↓kSm_eq, ↓we_sl, ↓kSl1_eq, ↓kSl2_eq, ↓kSl3_eq, ↓kSl4_eq, ↓we_m0, ↓we_m1, ↓kM0_eq, ↓kM1_eq, ↓kM1b_eq, ↓kM1c_eq, ↓wg_slot, ↓kGSlot_eq, ↓wgs_nil, ↓wgs_cons, ↓kGs_eq, ↓wg_unp, ↓wi_any, ↓kIAnyA_eq, ↓kIAny_l, ↓kIAny_t, ↓kIAny_s, ↓wi_r1, ↓wi_r2, ↓kR1_eq, ↓kR2_eq, ↓kR2a_eq, ↓we_lc, ↓kLc_eq, ↓kLcE_eq, ↓kLcF_eq, ↓kLcR_eq, ↓kLcT_eq, ↓kLcB_t, ↓kLcB_f, ↓wt_yes, ↓ws_skip, ↓ws_seq, ↓kSeq_nx, ↓kSeq_rt, ↓kSeq_bk, ↓kSeq_ct, ↓ws_expr, ↓kExpr_eq, ↓ws_set, ↓kSet_eq, ↓kSetL_eq, ↓kSetV_fz, ↓kSetV_own, ↓kSetV_plc, ↓kSetP_own, ↓kSetP_ref, ↓kSetP_fz, ↓ws_asg, ↓kAsg_fz, ↓kAsgB_eq, ↓ws_ret, ↓kRet_fz, ↓kRet_own, ↓kRet_plc, ↓kRetP_own, ↓kRetP_ref, ↓ws_retN, ↓ws_if, ↓kIf_t, ↓kIf_f, ↓ws_brk, ↓ws_cnt, ↓ws_for, ↓kFor_eq, ↓kLoop_nx, ↓kLoop_ct, ↓kLoop_bk, ↓kLoop_rt, ↓kBody_eq, ↓wl_eq, ↓kOwnL_own, ↓kOwnL_ref, ↓ws_setIx, ↓kSI1_eq, ↓kSI2_eq, ↓kSI3_eq, ↓kSI4_eq, ↓kSI5_eq, ↓we_app, ↓kAp0_eq, ↓kAp1_eq, ↓kAp2_eq, ↓kAp3_eq, ↓we_user, ↓kUsr_eq, ↓kUsr1_eq, ↓kUsr2_eq, ↓kUsr3_fz, ↓kUsr3_own, ↓warg_nil, ↓warg_fz, ↓warg_own, ↓warg_plc, ↓kArg1_eq, ↓kArg2_eq, ↓kArgP_own, ↓kArgP_ref, ↓kArgP_fz, ↓kArgP_rfz, ↓wc_run, ↓kRun_rt, ↓kRun_nx, ↓kRunR_fz, ↓kRunR_own, ↓wex_nil, ↓wex_fz, ↓wex_ref, ↓wex_rfz, ↓kEx_eq, ↓we_rev, ↓kRev0_eq, ↓kRev_l, ↓wk_eq, ↓kOwnK_own, ↓kOwnK_ref, ↓ws_setKey, ↓kSK1_eq, ↓kSK2_eq, ↓kSK3_eq, ↓kSK4_s, ↓kSK4_i, ↓kSK5_eq, ↓kSK6_eq, ↓we_get1, ↓kG1_eq, ↓kG2_d, ↓kG3_eq, ↓kG4_d, ↓kG5_s, ↓kG5_i, ↓we_get2, ↓kH1_eq, ↓kH2_d, ↓kH3_eq, ↓kH3b_eq, ↓kH4_d, ↓kH5_s, ↓kH5_i, ↓kWh_t, ↓kWh_f, ↓ws_while, ↓we_ext, ↓kEx0_eq, ↓kEx1_eq, ↓kEx3_eq, ↓kJ_nx, ↓kJ_rt, ↓kJ_bk, ↓kJ_ct, ↓kIs_eq, ↓kIsE_eq, wp_some, backSVs_nil, backSVs_cons, lock_unb, lock_fz, lock_own, plain_fz, plain_own, enter_fz, enter_own, put_ownE, put_refE, back_oo, back_of, back_ro, back_rf, back_fz, back_rfz, freeze_own, freeze_ref, freeze_fz, backAt_eq, findSV_nil, findSV_nil2, findSV_plc, findSV_fz, findSV_own, apart_nil, apart_fz, apart_own, apart_plc, placed_nil, placed_fz, placed_own, placed_plc, wipeE_nil, wipeE_cons, backE_nil, backE_cons, unlocked_nil, unlocked_cons, List.set_cons_zero, List.set_cons_succ, List.getD_cons_zero, List.getD_cons_succ, List.getElem?_cons_zero, List.getElem?_cons_succ, List.map_cons, List.map_nil, List.cons_append, List.nil_append, List.replicate_succ, List.replicate_zero, List.length_cons, List.length_nil, List.all_cons, List.all_nil, Nat.reduceSub, Nat.reduceAdd, Nat.reduceLeDiff, Nat.reduceEqDiff, Nat.reduceLT, Nat.zero_add, Bool.not_true, Bool.not_false, Bool.and_true, Bool.true_and, Bool.and_self, and_true, true_and, if_true, reduceIte, reduceCtorEq, decide_true, decide_false, Bool.false_eq_true, Bool.or_false, Bool.or_true, Bool.false_or, Bool.true_or, Bool.and_false, Bool.false_and, Nat.le_refl, lineN, Nat.one_ne_zero, Nat.zero_ne_one, addD_i, subD_i, negD_i, cmpI_i, eqD_i, neD_i, eqD_s, neD_s, eqD_b, neD_b, isD_n, isD_b, isNotD_n, isNotD_b, isBool_b, isNone_n, isNone_b, isNone_i, isNone_s, isNone_l, isNone_t, isNone_d, isi_eq, lenD_l, lenD_t, absD_n, maxD_m, minD_m, intD_i, listD_l, listD_t, tupleD_l, tupleD_t, isiB, mulSD_i, divD_i, modD_i, powD_i, ixD_l, ixD_t, ixD_s, slD_l, slD_t, slD_s, lenD_s, addD_s, addD_l, addD_t, strD_i, wp_bind, wp_guard, atI_0, atI_1, atI_2, atI_3, atI_4, ixN_0, ixN_1, ixN_2, Int.reduceNeg, Int.reduceSub, Int.reduceAdd, listD_s, tupleD_s, mulSD_s, small64_eq, decide_eq_true_eq, or_true, true_or, Int.reducePow, Int.reduceToNat, Int.reduceLE, Int.reduceLT, Int.reduceMul, Int.reduceEq, Int.zero_add, Nat.reducePow, Nat.reduceMul, Int.reduceAbs, rangeD_1, rangeD_2, rangeD_3, sortedD_l, maxLD_l, minLD_l, sumLD_l, reprD_1, ixD_ds, ixD_di, inD_ds, inD_di, notInD_ds, notInD_di, dictPD_l, intsOf_nil, intsOf_cons, Option.bind_some, List.max?_cons', List.min?_cons', List.foldl_cons, List.foldl_nil, kDictb_s, kDictb_int, Int.cast_ofNat_Int, upperD_eq, cutS_S, S_cps, S_len', SX.S_len, SX.S_cat, S_mk, repS_S, inD_S, notInD_S, signD_S, ixD_S, cutG_none, cutG_but, cutD_G, lit_0, lit_1, lit_2, lit_3, lit_4, q1, er, beq_self_eq_true])
          exact ⟨_, _, ⟨rfl, rfl⟩, rfl⟩
        · obtain ⟨s5'', s6'', ⟨h5'', h6''⟩, rfl⟩ := he
          (try simp only [↓wx_0, ↓wx_s, ↓wv_fz, ↓wv_own, ↓wv_plc, ↓kView_fz, ↓kView_own, ↓kView_ref, ↓kView_rfz, ↓wf_fz, ↓wf_own, ↓wf_plc, ↓kFix_fz, ↓kFix_rfz, ↓kFix_own, ↓kFix_ref, ↓we_lit, ↓we_slot, ↓kSlot_fz, ↓kSlot_rfz, ↓kSlot_own, ↓kSlot_ref, ↓wa_nil, ↓wa_cons, ↓kCons1_eq, ↓kCons2_eq, ↓wvs_nil, ↓wvs_cons, ↓kVs1_eq, ↓kVs2_eq, ↓we_op2, ↓kOp2a_eq, ↓kOp2b_eq, ↓kOp2c_eq, ↓kOp2d_eq, ↓we_op1, ↓kOp1a_eq, ↓kOp1b_eq, ↓we_call, ↓kCalla_eq, ↓kCallb_eq, ↓wt_asT, ↓kAsT_eq, ↓wt_and, ↓wt_or, ↓wt_not, ↓kAnd_t, ↓kAnd_f, ↓kOr_t, ↓kOr_f, ↓kNot_eq, ↓we_eT, ↓kET_eq, ↓we_if, ↓kIfE_t, ↓kIfE_f, ↓we_chain, ↓kCh1_eq, ↓kCh2_eq, ↓kCh3_eq, ↓kCh4_eq, ↓kCh5_t, ↓kCh5_f, ↓wfs_nil, ↓wfs_cons, ↓kFs1_eq, ↓kFs2_eq, ↓we_tup, ↓we_lst, ↓kTup_eq, ↓kTupb_eq, ↓kLst_eq, ↓kLstb_eq, ↓we_dict, ↓kDict_eq, ↓kDictb_nil, ↓we_dictT, ↓kDictT_eq, ↓kDictTb_2, ↓wa_pairs0, ↓wa_pairs, ↓wo_no, ↓wo_sm, ↓kSm_eq, ↓we_sl, ↓kSl1_eq, ↓kSl2_eq, ↓kSl3_eq, ↓kSl4_eq, ↓we_m0, ↓we_m1, ↓kM0_eq, ↓kM1_eq, ↓kM1b_eq, ↓kM1c_eq, ↓wg_slot, ↓kGSlot_eq, ↓wgs_nil, ↓wgs_cons, ↓kGs_eq, ↓wg_unp, ↓wi_any, ↓kIAnyA_eq, ↓kIAny_l, ↓kIAny_t, ↓kIAny_s, ↓wi_r1, ↓wi_r2, ↓kR1_eq, ↓kR2_eq, ↓kR2a_eq, ↓we_lc, ↓kLc_eq, ↓kLcE_eq, ↓kLcF_eq, ↓kLcR_eq, ↓kLcT_eq, ↓kLcB_t, ↓kLcB_f, ↓wt_yes, ↓ws_skip, ↓ws_seq, ↓kSeq_nx, ↓kSeq_rt, ↓kSeq_bk, ↓kSeq_ct, ↓ws_expr, ↓kExpr_eq, ↓ws_set, ↓kSet_eq, ↓kSetL_eq, ↓kSetV_fz, ↓kSetV_own, ↓kSetV_plc, ↓kSetP_own, ↓kSetP_ref, ↓kSetP_fz, ↓ws_asg, ↓kAsg_fz, ↓kAsgB_eq, ↓ws_ret, ↓kRet_fz, ↓kRet_own, ↓kRet_plc, ↓kRetP_own, ↓kRetP_ref, ↓ws_retN, ↓ws_if, ↓kIf_t, ↓kIf_f, ↓ws_brk, ↓ws_cnt, ↓ws_for, ↓kFor_eq, ↓kLoop_nx, ↓kLoop_ct, ↓kLoop_bk, ↓kLoop_rt, ↓kBody_eq, ↓wl_eq, ↓kOwnL_own, ↓kOwnL_ref, ↓ws_setIx, ↓kSI1_eq, ↓kSI2_eq, ↓kSI3_eq, ↓kSI4_eq, ↓kSI5_eq, ↓we_app, ↓kAp0_eq, ↓kAp1_eq, ↓kAp2_eq, ↓kAp3_eq, ↓we_user, ↓kUsr_eq, ↓kUsr1_eq, ↓kUsr2_eq, ↓kUsr3_fz, ↓kUsr3_own, ↓warg_nil, ↓warg_fz, ↓warg_own, ↓warg_plc, ↓kArg1_eq, ↓kArg2_eq, ↓kArgP_own, ↓kArgP_ref, ↓kArgP_fz, ↓kArgP_rfz, ↓wc_run, ↓kRun_rt, ↓kRun_nx, ↓kRunR_fz, ↓kRunR_own, ↓wex_nil, ↓wex_fz, ↓wex_ref, ↓wex_rfz, ↓kEx_eq, ↓we_rev, ↓kRev0_eq, ↓kRev_l, ↓wk_eq, ↓kOwnK_own, ↓kOwnK_ref, ↓ws_setKey, ↓kSK1_eq, ↓kSK2_eq, ↓kSK3_eq, ↓kSK4_s, ↓kSK4_i, ↓kSK5_eq, ↓kSK6_eq, ↓we_get1, ↓kG1_eq, ↓kG2_d, ↓kG3_eq, ↓kG4_d, ↓kG5_s, ↓kG5_i, ↓we_get2, ↓kH1_eq, ↓kH2_d, ↓kH3_eq, ↓kH3b_eq, ↓kH4_d, ↓kH5_s, ↓kH5_i, ↓kWh_t, ↓kWh_f, ↓ws_while, ↓we_ext, ↓kEx0_eq, ↓kEx1_eq, ↓kEx3_eq, ↓kJ_nx, ↓kJ_rt, ↓kJ_bk, ↓kJ_ct, ↓kIs_eq, ↓kIsE_eq, wp_some, backSVs_nil, backSVs_cons, lock_unb, lock_fz, lock_own, plain_fz, plain_own, enter_fz, enter_own, put_ownE, put_refE, back_oo, back_of, back_ro, back_rf, back_fz, back_rfz, freeze_own, freeze_ref, freeze_fz, backAt_eq, findSV_nil, findSV_nil2, findSV_plc, findSV_fz, findSV_own, apart_nil, apart_fz, apart_own, apart_plc, placed_nil, placed_fz, placed_own, placed_plc, wipeE_nil, wipeE_cons, backE_nil, backE_cons, unlocked_nil, unlocked_cons, List.set_cons_zero, List.set_cons_succ, List.getD_cons_zero, List.getD_cons_succ, List.getElem?_cons_zero, List.getElem?_cons_succ, List.map_cons, List.map_nil, List.cons_append, List.nil_append, List.replicate_succ, List.replicate_zero, List.length_cons, List.length_nil, List.all_cons, List.all_nil, Nat.reduceSub, Nat.reduceAdd, Nat.reduceLeDiff, Nat.reduceEqDiff, Nat.reduceLT, Nat.zero_add, Bool.not_true, Bool.not_false, Bool.and_true, Bool.true_and, Bool.and_self, and_true, true_and, if_true, reduceIte, reduceCtorEq, decide_true, decide_false, Bool.false_eq_true, Bool.or_false, Bool.or_true, Bool.false_or, Bool.true_or, Bool.and_false, Bool.false_and, Nat.le_refl, lineN, Nat.one_ne_zero, Nat.zero_ne_one, addD_i, subD_i, negD_i, cmpI_i, eqD_i, neD_i, eqD_s, neD_s, eqD_b, neD_b, isD_n, isD_b, isNotD_n, isNotD_b, isBool_b, isNone_n, isNone_b, isNone_i, isNone_s, isNone_l, isNone_t, isNone_d, isi_eq, lenD_l, lenD_t, absD_n, maxD_m, minD_m, intD_i, listD_l, listD_t, tupleD_l, tupleD_t, isiB, mulSD_i, divD_i, modD_i, powD_i, ixD_l, ixD_t, ixD_s, slD_l, slD_t, slD_s, lenD_s, addD_s, addD_l, addD_t, strD_i, wp_bind, wp_guard, atI_0, atI_1, atI_2, atI_3, atI_4, ixN_0, ixN_1, ixN_2, Int.reduceNeg, Int.reduceSub, Int.reduceAdd, listD_s, tupleD_s, mulSD_s, small64_eq, decide_eq_true_eq, or_true, true_or, Int.reducePow, Int.reduceToNat, Int.reduceLE, Int.reduceLT, Int.reduceMul, Int.reduceEq, Int.zero_add, Nat.reducePow, Nat.reduceMul, Int.reduceAbs, rangeD_1, rangeD_2, rangeD_3, sortedD_l, maxLD_l, minLD_l, sumLD_l, reprD_1, ixD_ds, ixD_di, inD_ds, inD_di, notInD_ds, notInD_di, dictPD_l, intsOf_nil, intsOf_cons, Option.bind_some, List.max?_cons', List.min?_cons', List.foldl_cons, List.foldl_nil, kDictb_s, kDictb_int, Int.cast_ofNat_Int, upperD_eq, cutS_S, S_cps, S_len', SX.S_len, SX.S_cat, S_mk, repS_S, inD_S, notInD_S, signD_S, ixD_S, cutG_none, cutG_but, cutD_G, lit_0, lit_1, lit_2, lit_3, lit_4])
          refine isspot_any (z2 _ _) ?_
          (try simp only [↓wx_0, ↓wx_s, ↓wv_fz, ↓wv_own, ↓wv_plc, ↓kView_fz, ↓kView_own, ↓kView_ref, ↓kView_rfz, ↓wf_fz, ↓wf_own, ↓wf_plc, ↓kFix_fz, ↓kFix_rfz, ↓kFix_own, ↓kFix_ref, ↓we_lit, ↓we_slot, ↓kSlot_fz, ↓kSlot_rfz, ↓kSlot_own, ↓kSlot_ref, ↓wa_nil, ↓wa_cons, ↓kCons1_eq, ↓kCons2_eq, ↓wvs_nil, ↓wvs_cons, ↓kVs1_eq, ↓kVs2_eq, ↓we_op2, ↓kOp2a_eq, ↓kOp2b_eq, ↓kOp2c_eq, ↓kOp2d_eq, ↓we_op1, ↓kOp1a_eq, ↓kOp1b_eq, ↓we_call, ↓kCalla_eq, ↓kCallb_eq, ↓wt_asT, ↓kAsT_eq, ↓wt_and, ↓wt_or, ↓wt_not, ↓kAnd_t, ↓kAnd_f, ↓kOr_t, ↓kOr_f, ↓kNot_eq, ↓we_eT, ↓kET_eq, ↓we_if, ↓kIfE_t, ↓kIfE_f, ↓we_chain, ↓kCh1_eq, ↓kCh2_eq, ↓kCh3_eq, ↓kCh4_eq, ↓kCh5_t, ↓kCh5_f, ↓wfs_nil, ↓wfs_cons, ↓kFs1_eq, ↓kFs2_eq, ↓we_tup, ↓we_lst, ↓kTup_eq, ↓kTupb_eq, ↓kLst_eq, ↓kLstb_eq, ↓we_dict, ↓kDict_eq, ↓kDictb_nil, ↓we_dictT, ↓kDictT_eq, ↓kDictTb_2, ↓wa_pairs0, ↓wa_pairs, ↓wo_no, ↓wo_sm, ↓kSm_eq, ↓we_sl, ↓kSl1_eq, ↓kSl2_eq, ↓kSl3_eq, ↓kSl4_eq, ↓we_m0, ↓we_m1, ↓kM0_eq, ↓kM1_eq, ↓kM1b_eq, ↓kM1c_eq, ↓wg_slot, ↓kGSlot_eq, ↓wgs_nil, ↓wgs_cons, ↓kGs_eq, ↓wg_unp, ↓wi_any, ↓kIAnyA_eq, ↓kIAny_l, ↓kIAny_t, ↓kIAny_s, ↓wi_r1, ↓wi_r2, ↓kR1_eq, ↓kR2_eq, ↓kR2a_eq, ↓we_lc, ↓kLc_eq, ↓kLcE_eq, ↓kLcF_eq, ↓kLcR_eq, ↓kLcT_eq, ↓kLcB_t, ↓kLcB_f, ↓wt_yes, ↓ws_skip, ↓ws_seq, ↓kSeq_nx, ↓kSeq_rt, ↓kSeq_bk, ↓kSeq_ct, ↓ws_expr, ↓kExpr_eq, ↓ws_set, ↓kSet_eq, ↓kSetL_eq, ↓kSetV_fz, ↓kSetV_own, ↓kSetV_plc, ↓kSetP_own, ↓kSetP_ref, ↓kSetP_fz, ↓ws_asg, ↓kAsg_fz, ↓kAsgB_eq, ↓ws_ret, ↓kRet_fz, ↓kRet_own, ↓kRet_plc, ↓kRetP_own, ↓kRetP_ref, ↓ws_retN, ↓ws_if, ↓kIf_t, ↓kIf_f, ↓ws_brk, ↓ws_cnt, ↓ws_for, ↓kFor_eq, ↓kLoop_nx, ↓kLoop_ct, ↓kLoop_bk, ↓kLoop_rt, ↓kBody_eq, ↓wl_eq, ↓kOwnL_own, ↓kOwnL_ref, ↓ws_setIx, ↓kSI1_eq, ↓kSI2_eq, ↓kSI3_eq, ↓kSI4_eq, ↓kSI5_eq, ↓we_app, ↓kAp0_eq, ↓kAp1_eq, ↓kAp2_eq, ↓kAp3_eq, ↓we_user, ↓kUsr_eq, ↓kUsr1_eq, ↓kUsr2_eq, ↓kUsr3_fz, ↓kUsr3_own, ↓warg_nil, ↓warg_fz, ↓warg_own, ↓warg_plc, ↓kArg1_eq, ↓kArg2_eq, ↓kArgP_own, ↓kArgP_ref, ↓kArgP_fz, ↓kArgP_rfz, ↓wc_run, ↓kRun_rt, ↓kRun_nx, ↓kRunR_fz, ↓kRunR_own, ↓wex_nil, ↓wex_fz, ↓wex_ref, ↓wex_rfz, ↓kEx_eq, ↓we_rev, ↓kRev0_eq, ↓kRev_l, ↓wk_eq, ↓kOwnK_own, ↓kOwnK_ref, ↓ws_setKey, ↓kSK1_eq, ↓kSK2_eq, ↓kSK3_eq, ↓kSK4_s, ↓kSK4_i, ↓kSK5_eq, ↓kSK6_eq, ↓we_get1, ↓kG1_eq, ↓kG2_d, ↓kG3_eq, ↓kG4_d, ↓kG5_s, ↓kG5_i, ↓we_get2, ↓kH1_eq, ↓kH2_d, ↓kH3_eq, ↓kH3b_eq, ↓kH4_d, ↓kH5_s, ↓kH5_i, ↓kWh_t, ↓kWh_f, ↓ws_while, ↓we_ext, ↓kEx0_eq, ↓kEx1_eq, ↓kEx3_eq, ↓kJ_nx, ↓kJ_rt, ↓kJ_bk, ↓kJ_ct, ↓kIs_eq, ↓kIsE_eq, wp_some, backSVs_nil, backSVs_cons, lock_unb, lock_fz, lock_own, plain_fz, plain_own, enter_fz, enter_own, put_ownE, put_refE, back_oo, back_of, back_ro, back_rf, back_fz, back_rfz, freeze_own, freeze_ref, freeze_fz, backAt_eq, findSV_nil, findSV_nil2, findSV_plc, findSV_fz, findSV_own, apart_nil, apart_fz, apart_own, apart_plc, placed_nil, placed_fz, placed_own, placed_plc, wipeE_nil, wipeE_cons, backE_nil, backE_cons, unlocked_nil, unlocked_cons, List.set_cons_zero, List.set_cons_succ, List.getD_cons_zero, List.getD_cons_succ, List.getElem?_cons_zero, List.getElem?_cons_succ, List.map_cons, List.map_nil, List.cons_append, List.nil_append, List.replicate_succ, List.replicate_zero, List.length_cons, List.length_nil, List.all_cons, List.all_nil, Nat.reduceSub, Nat.reduceAdd, Nat.reduceLeDiff, Nat.reduceEqDiff, Nat.reduceLT, Nat.zero_add, Bool.not_true, Bool.not_false, Bool.and_true, Bool.true_and, Bool.and_self, and_true, true_and, if_true, reduceIte, reduceCtorEq, decide_true, decide_false, Bool.false_eq_true, Bool.or_false, Bool.or_true, Bool.false_or, Bool.true_or, Bool.and_false, Bool.false_and, Nat.le_refl, lineN, Nat.one_ne_zero, Nat.zero_ne_one, addD_i, subD_i, negD_i, cmpI_i, eqD_i, neD_i, eqD_s, neD_s, eqD_b, neD_b, isD_n, isD_b, isNotD_n, isNotD_b, isBool_b, isNone_n, isNone_b, isNone_i, isNone_s, isNone_l, isNone_t, isNone_d, isi_eq, lenD_l, lenD_t, absD_n, maxD_m, minD_m, intD_i, listD_l, listD_t, tupleD_l, tupleD_t, isiB, mulSD_i, divD_i, modD_i, powD_i, ixD_l, ixD_t, ixD_s, slD_l, slD_t, slD_s, lenD_s, addD_s, addD_l, addD_t, strD_i, wp_bind, wp_guard, atI_0, atI_1, atI_2, atI_3, atI_4, ixN_0, ixN_1, ixN_2, Int.reduceNeg, Int.reduceSub, Int.reduceAdd, listD_s, tupleD_s, mulSD_s, small64_eq, decide_eq_true_eq, or_true, true_or, Int.reducePow, Int.reduceToNat, Int.reduceLE, Int.reduceLT, Int.reduceMul, Int.reduceEq, Int.zero_add, Nat.reducePow, Nat.reduceMul, Int.reduceAbs, rangeD_1, rangeD_2, rangeD_3, sortedD_l, maxLD_l, minLD_l, sumLD_l, reprD_1, ixD_ds, ixD_di, inD_ds, inD_di, notInD_ds, notInD_di, dictPD_l, intsOf_nil, intsOf_cons, Option.bind_some, List.max?_cons', List.min?_cons', List.foldl_cons, List.foldl_nil, kDictb_s, kDictb_int, Int.cast_ofNat_Int, upperD_eq, cutS_S, S_cps, S_len', SX.S_len, SX.S_cat, S_mk, repS_S, inD_S, notInD_S, signD_S, ixD_S, cutG_none, cutG_but, cutD_G, lit_0, lit_1, lit_2, lit_3, lit_4, spotB_t, beq_self_eq_true])
          refine isbox_any (by simp [szB, szT, lineN]) ?_
          have e5 : boxB (.tuple [.int x, .int y]) = false := by rw [boxB_2, spotB_i, Bool.false_and, Bool.false_and]
          (try simp only [↓wx_0, ↓wx_s, ↓wv_fz, ↓wv_own, ↓wv_plc, ↓kView_fz, ↓kView_own, ↓kView_ref, ↓kView_rfz, ↓wf_fz, ↓wf_own, ↓wf_plc, ↓kFix_fz, ↓kFix_rfz, ↓kFix_own, ↓kFix_ref, ↓we_lit, ↓we_slot, ↓kSlot_fz, ↓kSlot_rfz, ↓kSlot_own, ↓kSlot_ref, ↓wa_nil, ↓wa_cons, ↓kCons1_eq, ↓kCons2_eq, ↓wvs_nil, ↓wvs_cons, ↓kVs1_eq, ↓kVs2_eq, ↓we_op2, ↓kOp2a_eq, ↓kOp2b_eq, ↓kOp2c_eq, ↓kOp2d_eq, ↓we_op1, ↓kOp1a_eq, ↓kOp1b_eq, ↓we_call, ↓kCalla_eq, ↓kCallb_eq, ↓wt_asT, ↓kAsT_eq, ↓wt_and, ↓wt_or, ↓wt_not, ↓kAnd_t, ↓kAnd_f, ↓kOr_t, ↓kOr_f, ↓kNot_eq, ↓we_eT, ↓kET_eq, ↓we_if, ↓kIfE_t, ↓kIfE_f, ↓we_chain, ↓kCh1_eq, ↓kCh2_eq, ↓kCh3_eq, ↓kCh4_eq, ↓kCh5_t, ↓kCh5_f, ↓wfs_nil, ↓wfs_cons, ↓kFs1_eq, ↓kFs2_eq, ↓we_tup, ↓we_lst, ↓kTup_eq, ↓kTupb_eq, ↓kLst_eq, ↓kLstb_eq, ↓we_dict, ↓kDict_eq, ↓kDictb_nil, ↓we_dictT, ↓kDictT_eq, ↓kDictTb_2, ↓wa_pairs0, ↓wa_pairs, ↓wo_no, ↓wo_sm, ↓kSm_eq, ↓we_sl, ↓kSl1_eq, ↓kSl2_eq, ↓kSl3_eq, ↓kSl4_eq, ↓we_m0, ↓we_m1, ↓kM0_eq, ↓kM1_eq, ↓kM1b_eq, ↓kM1c_eq, ↓wg_slot, ↓kGSlot_eq, ↓wgs_nil, ↓wgs_cons, ↓kGs_eq, ↓wg_unp, ↓wi_any, ↓kIAnyA_eq, ↓kIAny_l, ↓kIAny_t, ↓kIAny_s, ↓wi_r1, ↓wi_r2, ↓kR1_eq, ↓kR2_eq, ↓kR2a_eq, ↓we_lc, ↓kLc_eq, ↓kLcE_eq, ↓kLcF_eq, ↓kLcR_eq, ↓kLcT_eq, ↓kLcB_t, ↓kLcB_f, ↓wt_yes, ↓ws_skip, ↓ws_seq, ↓kSeq_nx, ↓kSeq_rt, ↓kSeq_bk, ↓kSeq_ct, ↓ws_expr, ↓kExpr_eq, ↓ws_set, ↓kSet_eq, ↓kSetL_eq, ↓kSetV_fz, ↓kSetV_own, ↓kSetV_plc, ↓kSetP_own, ↓kSetP_ref, ↓kSetP_fz, ↓ws_asg, ↓kAsg_fz, ↓kAsgB_eq, ↓ws_ret, ↓kRet_fz, ↓kRet_own, ↓kRet_plc, ↓kRetP_own, ↓kRetP_ref, ↓ws_retN, ↓ws_if, ↓kIf_t, ↓kIf_f, ↓ws_brk, ↓ws_cnt, ↓ws_for, ↓kFor_eq, ↓kLoop_nx, ↓kLoop_ct, ↓kLoop_bk, ↓kLoop_rt, ↓kBody_eq, ↓wl_eq, ↓kOwnL_own, ↓kOwnL_ref, ↓ws_setIx, ↓kSI1_eq, ↓kSI2_eq, ↓kSI3_eq, ↓kSI4_eq, ↓kSI5_eq, ↓we_app, ↓kAp0_eq, ↓kAp1_eq, ↓kAp2_eq, ↓kAp3_eq, ↓we_user, ↓kUsr_eq, ↓kUsr1_eq, ↓kUsr2_eq, ↓kUsr3_fz, ↓kUsr3_own, ↓warg_nil, ↓warg_fz, ↓warg_own, ↓warg_plc, ↓kArg1_eq, ↓kArg2_eq, ↓kArgP_own, ↓kArgP_ref, ↓kArgP_fz, ↓kArgP_rfz, ↓wc_run, ↓kRun_rt, ↓kRun_nx, ↓kRunR_fz, ↓kRunR_own, ↓wex_nil, ↓wex_fz, ↓wex_ref, ↓wex_rfz, ↓kEx_eq, ↓we_rev, ↓kRev0_eq, ↓kRev_l, ↓wk_eq, ↓kOwnK_own, ↓kOwnK_ref, ↓ws_setKey, ↓kSK1_eq, ↓kSK2_eq, ↓kSK3_eq, ↓kSK4_s, ↓kSK4_i, ↓kSK5_eq, ↓kSK6_eq, ↓we_get1, ↓kG1_eq, ↓kG2_d, ↓kG3_eq, ↓kG4_d, ↓kG5_s, ↓kG5_i, ↓we_get2, ↓kH1_eq, ↓kH2_d, ↓kH3_eq, ↓kH3b_eq, ↓kH4_d, ↓kH5_s, ↓kH5_i, ↓kWh_t, ↓kWh_f, ↓ws_while, ↓we_ext, ↓kEx0_eq, ↓kEx1_eq, ↓kEx3_eq, ↓kJ_nx, ↓kJ_rt, ↓kJ_bk, ↓kJ_ct, ↓kIs_eq, ↓kIsE_eq, wp_some, backSVs_nil, backSVs_cons, lock_unb, lock_fz, lock_own, plain_fz, plain_own, enter_fz, enter_own, put_ownE, put_refE, back_oo, back_of, back_ro, back_rf, back_fz, back_rfz, freeze_own, freeze_ref, freeze_fz, backAt_eq, findSV_nil, findSV_nil2, findSV_plc, findSV_fz, findSV_own, apart_nil, apart_fz, apart_own, apart_plc, placed_nil, placed_fz, placed_own, placed_plc, wipeE_nil, wipeE_cons, backE_nil, backE_cons, unlocked_nil, unlocked_cons, List.set_cons_zero, List.set_cons_succ, List.getD_cons_zero, List.getD_cons_succ, List.getElem?_cons_zero, List.getElem?_cons_succ, List.map_cons, List.map_nil, List.cons_append, List.nil_append, List.replicate_succ, List.replicate_zero, List.length_cons, List.length_nil, List.all_cons, List.all_nil, Nat.reduceSub, Nat.reduceAdd, Nat.reduceLeDiff, Nat.reduceEqDiff, Nat.reduceLT, Nat.zero_add, Bool.not_true, Bool.not_false, Bool.and_true, Bool.true_and, Bool.and_self, and_true, true_and, if_true, reduceIte, reduceCtorEq, decide_true, decide_false, Bool.false_eq_true, Bool.or_false, Bool.or_true, Bool.false_or, Bool.true_or, Bool.and_false, Bool.false_and, Nat.le_refl, lineN, Nat.one_ne_zero, Nat.zero_ne_one, addD_i, subD_i, negD_i, cmpI_i, eqD_i, neD_i, eqD_s, neD_s, eqD_b, neD_b, isD_n, isD_b, isNotD_n, isNotD_b, isBool_b, isNone_n, isNone_b, isNone_i, isNone_s, isNone_l, isNone_t, isNone_d, isi_eq, lenD_l, lenD_t, absD_n, maxD_m, minD_m, intD_i, listD_l, listD_t, tupleD_l, tupleD_t, isiB, mulSD_i, divD_i, modD_i, powD_i, ixD_l, ixD_t, ixD_s, slD_l, slD_t, slD_s, lenD_s, addD_s, addD_l, addD_t, strD_i, wp_bind, wp_guard, atI_0, atI_1, atI_2, atI_3, atI_4, ixN_0, ixN_1, ixN_2, Int.reduceNeg, Int.reduceSub, Int.reduceAdd, listD_s, tupleD_s, mulSD_s, small64_eq, decide_eq_true_eq, or_true, true_or, Int.reducePow, Int.reduceToNat, Int.reduceLE, Int.reduceLT, Int.reduceMul, Int.reduceEq, Int.zero_add, Nat.reducePow, Nat.reduceMul, Int.reduceAbs, rangeD_1, rangeD_2, rangeD_3, sortedD_l, maxLD_l, minLD_l, sumLD_l, reprD_1, ixD_ds, ixD_di, inD_ds, inD_di, notInD_ds, notInD_di, dictPD_l, intsOf_nil, intsOf_cons, Option.bind_some, List.max?_cons', List.min?_cons', List.foldl_cons, List.foldl_nil, kDictb_s, kDictb_int, Int.cast_ofNat_Int, upperD_eq, cutS_S, S_cps, S_len', SX.S_len, SX.S_cat, S_mk, repS_S, inD_S, notInD_S, signD_S, ixD_S, cutG_none, cutG_but, cutD_G, lit_0, lit_1, lit_2, lit_3, lit_4, e5, beq_self_eq_true])
          exact ⟨_, _, _, _, _, _, _, ⟨rfl, rfl, rfl, h5'', h6''⟩, rfl⟩
    · obtain ⟨p, c, s2, s3, s4, s5, s6, ⟨h2, h3, h4, h5, h6⟩, rfl⟩ := he
      (try simp only [↓wx_0, ↓wx_s, ↓wv_fz, ↓wv_own, ↓wv_plc, ↓kView_fz, ↓kView_own, ↓kView_ref, ↓kView_rfz, ↓wf_fz, ↓wf_own, ↓wf_plc, ↓kFix_fz, ↓kFix_rfz, ↓kFix_own, ↓kFix_ref, ↓we_lit, ↓we_slot, ↓kSlot_fz, ↓kSlot_rfz, ↓kSlot_own, ↓kSlot_ref, ↓wa_nil, ↓wa_cons, ↓kCons1_eq, ↓kCons2_eq, ↓wvs_nil, ↓wvs_cons, ↓kVs1_eq, ↓kVs2_eq, ↓we_op2, ↓kOp2a_eq, ↓kOp2b_eq, ↓kOp2c_eq, ↓kOp2d_eq, ↓we_op1, ↓kOp1a_eq, ↓kOp1b_eq, ↓we_call, ↓kCalla_eq, ↓kCallb_eq, ↓wt_asT, ↓kAsT_eq, ↓wt_and, ↓wt_or, ↓wt_not, ↓kAnd_t, ↓kAnd_f, ↓kOr_t, ↓kOr_f, ↓kNot_eq, ↓we_eT, ↓kET_eq, ↓we_if, ↓kIfE_t, ↓kIfE_f, ↓we_chain, ↓kCh1_eq, ↓kCh2_eq, ↓kCh3_eq, ↓kCh4_eq, ↓kCh5_t, ↓kCh5_f, ↓wfs_nil, ↓wfs_cons, ↓kFs1_eq, ↓kFs2_eq, ↓we_tup, ↓we_lst, ↓kTup_eq, ↓kTupb_eq, ↓kLst_eq, ↓kLstb_eq, ↓we_dict, ↓kDict_eq, ↓kDictb_nil, ↓we_dictT, ↓kDictT_eq, ↓kDictTb_2, ↓wa_pairs0, ↓wa_pairs, ↓wo_no, ↓wo_sm, ↓kSm_eq, ↓we_sl, ↓kSl1_eq, ↓kSl2_eq, ↓kSl3_eq, ↓kSl4_eq, ↓we_m0, ↓we_m1, ↓kM0_eq, ↓kM1_eq, ↓kM1b_eq, ↓kM1c_eq, ↓wg_slot, ↓kGSlot_eq, ↓wgs_nil, ↓wgs_cons, ↓kGs_eq, ↓wg_unp, ↓wi_any, ↓kIAnyA_eq, ↓kIAny_l, ↓kIAny_t, ↓kIAny_s, ↓wi_r1, ↓wi_r2, ↓kR1_eq, ↓kR2_eq, ↓kR2a_eq, ↓we_lc, ↓kLc_eq, ↓kLcE_eq, ↓kLcF_eq, ↓kLcR_eq, ↓kLcT_eq, ↓kLcB_t, ↓kLcB_f, ↓wt_yes, ↓ws_skip, ↓ws_seq, ↓kSeq_nx, ↓kSeq_rt, ↓kSeq_bk, ↓kSeq_ct, ↓ws_expr, ↓kExpr_eq, ↓ws_set, ↓kSet_eq, ↓kSetL_eq, ↓kSetV_fz, ↓kSetV_own, ↓kSetV_plc, ↓kSetP_own, ↓kSetP_ref, ↓kSetP_fz, ↓ws_asg, ↓kAsg_fz, ↓kAsgB_eq, ↓ws_ret, ↓kRet_fz, ↓kRet_own, ↓kRet_plc, ↓kRetP_own, ↓kRetP_ref, ↓ws_retN, ↓ws_if, ↓kIf_t, ↓kIf_f, ↓ws_brk, ↓ws_cnt, ↓ws_for, ↓kFor_eq, ↓kLoop_nx, ↓kLoop_ct, ↓kLoop_bk, ↓kLoop_rt, ↓kBody_eq, ↓wl_eq, ↓kOwnL_own, ↓kOwnL_ref, ↓ws_setIx, ↓kSI1_eq, ↓kSI2_eq, ↓kSI3_eq, ↓kSI4_eq, ↓kSI5_eq, ↓we_app, ↓kAp0_eq, ↓kAp1_eq, ↓kAp2_eq, ↓kAp3_eq, ↓we_user, ↓kUsr_eq, ↓kUsr1_eq, ↓kUsr2_eq, ↓kUsr3_fz, ↓kUsr3_own, ↓warg_nil, ↓warg_fz, ↓warg_own, ↓warg_plc, ↓kArg1_eq, ↓kArg2_eq, ↓kArgP_own, ↓kArgP_ref, ↓kArgP_fz, ↓kArgP_rfz, ↓wc_run, ↓kRun_rt, ↓kRun_nx, ↓kRunR_fz, ↓kRunR_own, ↓wex_nil, ↓wex_fz, ↓wex_ref, ↓wex_rfz, ↓kEx_eq, ↓we_rev, ↓kRev0_eq, ↓kRev_l, ↓wk_eq, ↓kOwnK_own, ↓kOwnK_ref, ↓ws_setKey, ↓kSK1_eq, ↓kSK2_eq, ↓kSK3_eq, ↓kSK4_s, ↓kSK4_i, ↓kSK5_eq, ↓kSK6_eq, ↓we_get1, ↓kG1_eq, ↓kG2_d, ↓kG3_eq, ↓kG4_d, ↓kG5_s, ↓kG5_i, ↓we_get2, ↓kH1_eq, ↓kH2_d, ↓kH3_eq, ↓kH3b_eq, ↓kH4_d, ↓kH5_s, ↓kH5_i, ↓kWh_t, ↓kWh_f, ↓ws_while, ↓we_ext, ↓kEx0_eq, ↓kEx1_eq, ↓kEx3_eq, ↓kJ_nx, ↓kJ_rt, ↓kJ_bk, ↓kJ_ct, ↓kIs_eq, ↓kIsE_eq, wp_some, backSVs_nil, backSVs_cons, lock_unb, lock_fz, lock_own, plain_fz, plain_own, enter_fz, enter_own, put_ownE, put_refE, back_oo, back_of, back_ro, back_rf, back_fz, back_rfz, freeze_own, freeze_ref, freeze_fz, backAt_eq, findSV_nil, findSV_nil2, findSV_plc, findSV_fz, findSV_own, apart_nil, apart_fz, apart_own, apart_plc, placed_nil, placed_fz, placed_own, placed_plc, wipeE_nil, wipeE_cons, backE_nil, backE_cons, unlocked_nil, unlocked_cons, List.set_cons_zero, List.set_cons_succ, List.getD_cons_zero, List.getD_cons_succ, List.getElem?_cons_zero, List.getElem?_cons_succ, List.map_cons, List.map_nil, List.cons_append, List.nil_append, List.replicate_succ, List.replicate_zero, List.length_cons, List.length_nil, List.all_cons, List.all_nil, Nat.reduceSub, Nat.reduceAdd, Nat.reduceLeDiff, Nat.reduceEqDiff, Nat.reduceLT, Nat.zero_add, Bool.not_true, Bool.not_false, Bool.and_true, Bool.true_and, Bool.and_self, and_true, true_and, if_true, reduceIte, reduceCtorEq, decide_true, decide_false, Bool.false_eq_true, Bool.or_false, Bool.or_true, Bool.false_or, Bool.true_or, Bool.and_false, Bool.false_and, Nat.le_refl, lineN, Nat.one_ne_zero, Nat.zero_ne_one, addD_i, subD_i, negD_i, cmpI_i, eqD_i, neD_i, eqD_s, neD_s, eqD_b, neD_b, isD_n, isD_b, isNotD_n, isNotD_b, isBool_b, isNone_n, isNone_b, isNone_i, isNone_s, isNone_l, isNone_t, isNone_d, isi_eq, lenD_l, lenD_t, absD_n, maxD_m, minD_m, intD_i, listD_l, listD_t, tupleD_l, tupleD_t, isiB, mulSD_i, divD_i, modD_i, powD_i, ixD_l, ixD_t, ixD_s, slD_l, slD_t, slD_s, lenD_s, addD_s, addD_l, addD_t, strD_i, wp_bind, wp_guard, atI_0, atI_1, atI_2, atI_3, atI_4, ixN_0, ixN_1, ixN_2, Int.reduceNeg, Int.reduceSub, Int.reduceAdd, listD_s, tupleD_s, mulSD_s, small64_eq, decide_eq_true_eq, or_true, true_or, Int.reducePow, Int.reduceToNat, Int.reduceLE, Int.reduceLT, Int.reduceMul, Int.reduceEq, Int.zero_add, Nat.reducePow, Nat.reduceMul, Int.reduceAbs, rangeD_1, rangeD_2, rangeD_3, sortedD_l, maxLD_l, minLD_l, sumLD_l, reprD_1, ixD_ds, ixD_di, inD_ds, inD_di, notInD_ds, notInD_di, dictPD_l, intsOf_nil, intsOf_cons, Option.bind_some, List.max?_cons', List.min?_cons', List.foldl_cons, List.foldl_nil, kDictb_s, kDictb_int, Int.cast_ofNat_Int, upperD_eq, cutS_S, S_cps, S_len', SX.S_len, SX.S_cat, S_mk, repS_S, inD_S, notInD_S, signD_S, ixD_S, cutG_none, cutG_but, cutD_G, lit_0, lit_1, lit_2, lit_3, lit_4])
  obtain ⟨⟨bs, r⟩, h1, h2⟩ := h
  have h2' : r = .fz (.bool true) := h2
  subst h2'
  exact ⟨bs, h1⟩

end G_k01

namespace G_k01
open PySem PySem.Spec PyProof.Rows L2 L3
def topS (i : Nat) : Stmt := PySem.Challenge.pw_landsentered_k01_spots_and_boxes.main.body.getD i (.Pass ⟨0, 0, 0, 0⟩)
abbrev s_is_whole : Stmt := topS 2
abbrev s_is_near : Stmt := topS 3
abbrev s_is_spot : Stmt := topS 4
abbrev s_is_box : Stmt := topS 5
abbrev s_law_take : Stmt := topS 7
abbrev s_law_wide : Stmt := topS 8
abbrev s_law_number : Stmt := topS 9
abbrev s_law_spot : Stmt := topS 10
abbrev s_law_box : Stmt := topS 11
abbrev s_law_odd : Stmt := topS 12
abbrev s_law_no_spots : Stmt := topS 13
abbrev s_law_no_boxes : Stmt := topS 14
abbrev s_law : Stmt := topS 15
/-! facts of the top -/
structure FnAt (K : PySem.W.Frag) (mg : Str → Option Value) (g x : Str) (st : Stmt) (ps : List Str) : Prop where
  ex : ∃ f fd, mg g = some (.ref f) ∧ Fun K x x st f fd ∧ Binds K fd ps []
structure Txt (K : PySem.W.Frag) (mg : Str → Option Value) : Prop where
  z_isinstance : mg "isinstance" = none
  z_int : mg "int" = none
  z_bool : mg "bool" = none
  z_abs : mg "abs" = none
  z_tuple : mg "tuple" = none
  z_len : mg "len" = none
  z_range : mg "range" = none
  z_str : mg "str" = none
  z_min : mg "min" = none
  z_max : mg "max" = none
  z_list : mg "list" = none
  z_repr : mg "repr" = none
  g_TOO_FAR : ∃ t, mg "TOO_FAR" = some (.int 1000000000000 t)
  f_is_whole : FnAt K mg "is_whole" "is_whole" s_is_whole ["thing"]
  f_is_near : FnAt K mg "is_near" "is_near" s_is_near ["thing"]
  f_is_spot : FnAt K mg "is_spot" "is_spot" s_is_spot ["thing"]
  f_is_box : FnAt K mg "is_box" "is_box" s_is_box ["thing"]
  f_law_take : FnAt K mg "_law_take" "_law_take" s_law_take ["_law_pen", "_law_many"]
  f_law_wide : FnAt K mg "_law_wide" "_law_wide" s_law_wide ["_law_pen", "_law_many"]
  f_law_number : FnAt K mg "_law_number" "_law_number" s_law_number ["_law_pen"]
  f_law_spot : FnAt K mg "_law_spot" "_law_spot" s_law_spot ["_law_pen"]
  f_law_box : FnAt K mg "_law_box" "_law_box" s_law_box ["_law_pen"]
  f_law_odd : FnAt K mg "_law_odd" "_law_odd" s_law_odd ["_law_pen"]
  f_law_no_spots : FnAt K mg "_law_no_spots" "_law_no_spots" s_law_no_spots ["_law_pen", "_law_spot_here"]
  f_law_no_boxes : FnAt K mg "_law_no_boxes" "_law_no_boxes" s_law_no_boxes ["_law_pen", "_law_box_here"]
  f_law : FnAt K mg "law" "law" s_law ["_law_script"]
section
variable {P : Program} {w : World} {K : PySem.W.Frag} {mg : Str → Option Value} {base : Heap}
theorem sc_is_whole : FnScope ["thing"] ["thing"] (defScope s_is_whole) := ⟨rfl, rfl, rfl, by decide +kernel, rfl, by decide +kernel, by decide +kernel⟩
theorem ok_is_whole {f : Addr} {fd : FuncData} (T : Txt K mg) (F : Fun K "is_whole" "is_whole" s_is_whole f fd) : FnOkG P w K mg base CX0 1 f fd ["thing"] (spOf 1 c_is_whole K) := by
  have nd := sc_is_whole.nd
  exact fn_data (k := 0) F sc_is_whole (by decide) fun cdv A outer s H E hr => (rs_one (rs_ret (re_truth (rb_and (rb_val (re_isi .int (by rfl) T.z_isinstance (re_slot (pv 0)) (by rfl) T.z_int (by decide +kernel))) (rb_one (rb_not (rb_val (re_isi .bool (by rfl) T.z_isinstance (re_slot (pv 0)) (by rfl) T.z_bool (by decide +kernel)))))))))
theorem sc_is_near : FnScope ["thing"] ["thing"] (defScope s_is_near) := ⟨rfl, rfl, rfl, by decide +kernel, rfl, by decide +kernel, by decide +kernel⟩
theorem ok_is_near {f : Addr} {fd : FuncData} (T : Txt K mg) (F : Fun K "is_near" "is_near" s_is_near f fd) : FnOkG P w K mg base CX0 2 f fd ["thing"] (spOf 1 c_is_near K) := by
  obtain ⟨f_is_whole, fd_is_whole, m_is_whole, F_is_whole, b_is_whole⟩ := T.f_is_whole.ex
  have G_is_whole := ok_is_whole (P := P) (w := w) (base := base) T F_is_whole
  have nd := sc_is_near.nd
  exact fn_data (k := 1) F sc_is_near (by decide) fun cdv A outer s H E hr => (rs_one (rs_ret (re_truth (rb_and (rb_val (re_user runF_len G_is_whole (hr.mono (by decide)) (by rfl) m_is_whole F_is_whole.kp b_is_whole (ra_cons (re_slot (pv 0)) ra_nil))) (rb_one (rb_val (re_cmp o_lt (re_callB c_abs (by rfl) T.z_abs (by decide +kernel) (ra_cons (re_slot (pv 0)) ra_nil)) (re_gI (by rfl) T.g_TOO_FAR) (nomark _))))))))
theorem sc_is_spot : FnScope ["thing"] ["thing"] (defScope s_is_spot) := ⟨rfl, rfl, rfl, by decide +kernel, rfl, by decide +kernel, by decide +kernel⟩
theorem ok_is_spot {f : Addr} {fd : FuncData} (T : Txt K mg) (F : Fun K "is_spot" "is_spot" s_is_spot f fd) : FnOkG P w K mg base CX0 3 f fd ["thing"] (spOf 1 c_is_spot K) := by
  obtain ⟨f_is_near, fd_is_near, m_is_near, F_is_near, b_is_near⟩ := T.f_is_near.ex
  have G_is_near := ok_is_near (P := P) (w := w) (base := base) T F_is_near
  have nd := sc_is_spot.nd
  exact fn_data (k := 2) F sc_is_spot (by decide) fun cdv A outer s H E hr => (rs_one (rs_ret (re_truth (rb_and (rb_val (re_isi .tuple (by rfl) T.z_isinstance (re_slot (pv 0)) (by rfl) T.z_tuple (by decide +kernel))) (rb_and (rb_val (re_cmp (o_eq hr.units) (re_callB c_len (by rfl) T.z_len (by decide +kernel) (ra_cons (re_slot (pv 0)) ra_nil)) re_int (nomark _))) (rb_and (rb_val (re_user runF_len G_is_near (hr.mono (by decide)) (by rfl) m_is_near F_is_near.kp b_is_near (ra_cons (re_ix (o_ix hr.u65) (re_slot (pv 0)) re_int (fun _ _ => rfl)) ra_nil))) (rb_one (rb_val (re_user runF_len G_is_near (hr.mono (by decide)) (by rfl) m_is_near F_is_near.kp b_is_near (ra_cons (re_ix (o_ix hr.u65) (re_slot (pv 0)) re_int (fun _ _ => rfl)) ra_nil))))))))))
theorem sc_is_box : FnScope ["thing"] ["thing"] (defScope s_is_box) := ⟨rfl, rfl, rfl, by decide +kernel, rfl, by decide +kernel, by decide +kernel⟩
theorem ok_is_box {f : Addr} {fd : FuncData} (T : Txt K mg) (F : Fun K "is_box" "is_box" s_is_box f fd) : FnOkG P w K mg base CX0 4 f fd ["thing"] (spOf 1 c_is_box K) := by
  obtain ⟨f_is_spot, fd_is_spot, m_is_spot, F_is_spot, b_is_spot⟩ := T.f_is_spot.ex
  have G_is_spot := ok_is_spot (P := P) (w := w) (base := base) T F_is_spot
  have nd := sc_is_box.nd
  exact fn_data (k := 3) F sc_is_box (by decide) fun cdv A outer s H E hr => (rs_cons (rs_if (PW.pt (rw_or (rt_not (rt_val (re_isi .tuple (by rfl) T.z_isinstance (re_slot (pv 0)) (by rfl) T.z_tuple (by decide +kernel)))) (rw_or (rt_cmp (o_ne hr.units) (re_callB c_len (by rfl) T.z_len (by decide +kernel) (ra_cons (re_slot (pv 0)) ra_nil)) re_int (nomark _)) (rw_or (rt_not (rt_val (re_user runF_len G_is_spot (hr.mono (by decide)) (by rfl) m_is_spot F_is_spot.kp b_is_spot (ra_cons (re_ix (o_ix hr.u65) (re_slot (pv 0)) re_int (fun _ _ => rfl)) ra_nil)))) (rw_or1 (rt_not (rt_val (re_user runF_len G_is_spot (hr.mono (by decide)) (by rfl) m_is_spot F_is_spot.kp b_is_spot (ra_cons (re_ix (o_ix hr.u65) (re_slot (pv 0)) re_int (fun _ _ => rfl)) ra_nil)))))))))
 (rs_one (rs_ret re_bl))
 rs_nil)
 (rs_one (rs_ret (re_truth (rb_and (rb_val (re_cmp o_le (re_ix (o_ix hr.u65) (re_ix (o_ix hr.u65) (re_slot (pv 0)) re_int (fun _ _ => rfl)) re_int (fun _ _ => rfl)) (re_ix (o_ix hr.u65) (re_ix (o_ix hr.u65) (re_slot (pv 0)) re_int (fun _ _ => rfl)) re_int (fun _ _ => rfl)) (nomark _))) (rb_one (rb_val (re_cmp o_le (re_ix (o_ix hr.u65) (re_ix (o_ix hr.u65) (re_slot (pv 0)) re_int (fun _ _ => rfl)) re_int (fun _ _ => rfl)) (re_ix (o_ix hr.u65) (re_ix (o_ix hr.u65) (re_slot (pv 0)) re_int (fun _ _ => rfl)) re_int (fun _ _ => rfl)) (nomark _)))))))))
theorem sc_law_take : FnScope ["_law_pen", "_law_many", "_law_digit", "_law_at", "_law_cell", "_law_one", "_law_two"] ["_law_pen", "_law_many"] (defScope s_law_take) := ⟨rfl, rfl, rfl, by decide +kernel, rfl, by decide +kernel, by decide +kernel⟩
theorem ok_law_take {f : Addr} {fd : FuncData} (T : Txt K mg) (F : Fun K "_law_take" "_law_take" s_law_take f fd) : FnOkG P w K mg base CX0 1 f fd ["_law_pen", "_law_many"] (spOf 2 c_law_take K) := by
  have nd := sc_law_take.nd
  exact fn_data (k := 0) F sc_law_take (by decide) fun cdv A outer s H E hr => (rs_cons (rs_if (rt_cmp o_gt (re_ix (o_ix hr.u65) (re_slot (pv 0)) re_int (fun _ _ => rfl)) re_int (nomark _))
 (rs_cons (rs_set (i := 2) nd rfl (by first | exact Or.inl rfl | exact Or.inr rfl) (re_op o_mod (re_ix (o_ix hr.u65) (re_slot (pv 0)) re_int (fun _ _ => rfl)) (re_slot (pv 1))))
 (rs_cons (rs_setIx (pv 0) re_int (re_op o_div (re_ix (o_ix hr.u65) (re_slot (pv 0)) re_int (fun _ _ => rfl)) (re_slot (pv 1))))
 (rs_one (rs_ret (re_slot (pv 2))))))
 rs_nil)
 (rs_cons (rs_set (i := 3) nd rfl (by first | exact Or.inl rfl | exact Or.inr rfl) (re_ix (o_ix hr.u65) (re_slot (pv 0)) re_int (fun _ _ => rfl)))
 (rs_cons (rs_setIx (pv 0) re_int (re_op o_add (re_slot (pv 3)) re_int))
 (rs_cons (rs_set (i := 4) nd rfl (by first | exact Or.inl rfl | exact Or.inr rfl) re_int)
 (rs_cons (rs_if (rt_cmp o_gt (re_callB c_len (by rfl) T.z_len (by decide +kernel) (ra_cons (re_ix (o_ix hr.u65) (re_slot (pv 0)) re_int (fun _ _ => rfl)) ra_nil)) re_int (nomark _))
 (rs_one (rs_set (i := 4) nd rfl (by first | exact Or.inl rfl | exact Or.inr rfl) (re_ix (o_ix hr.u65) (re_ix (o_ix hr.u65) (re_slot (pv 0)) re_int (fun _ _ => rfl)) (re_op o_mod (re_slot (pv 3)) (re_callB c_len (by rfl) T.z_len (by decide +kernel) (ra_cons (re_ix (o_ix hr.u65) (re_slot (pv 0)) re_int (fun _ _ => rfl)) ra_nil))) (fun _ _ => rfl))))
 rs_nil)
 (rs_cons (rs_if (PW.pt (rw_and (rt_cmp o_lt (re_slot (pv 3)) (re_callB c_len (by rfl) T.z_len (by decide +kernel) (ra_cons (re_ix (o_ix hr.u65) (re_slot (pv 0)) re_int (fun _ _ => rfl)) ra_nil)) (nomark _)) (rw_and1 (rt_cmp o_ge (re_callB c_abs (by rfl) T.z_abs (by decide +kernel) (ra_cons (re_slot (pv 4)) ra_nil)) (re_op o_pow re_int re_int) (nomark _)))))
 (rs_cons (rs_setIx (pv 0) re_int (re_op o_div (re_callB c_abs (by rfl) T.z_abs (by decide +kernel) (ra_cons (re_slot (pv 4)) ra_nil)) (re_slot (pv 1))))
 (rs_one (rs_ret (re_op o_mod (re_callB c_abs (by rfl) T.z_abs (by decide +kernel) (ra_cons (re_slot (pv 4)) ra_nil)) (re_slot (pv 1))))))
 rs_nil)
 (rs_cons (rs_set (i := 5) nd rfl (by first | exact Or.inl rfl | exact Or.inr rfl) (re_op o_mod (re_op o_mulS (re_op o_add (re_op o_add (re_op o_mod (re_slot (pv 4)) re_int) (re_op o_mulS re_int (re_slot (pv 3)))) re_int) re_int) re_int))
 (rs_cons (rs_set (i := 6) nd rfl (by first | exact Or.inl rfl | exact Or.inr rfl) (re_op o_mod (re_op o_add (re_op o_add (re_op o_mulS (re_slot (pv 5)) (re_slot (pv 5))) (re_op o_mulS re_int (re_slot (pv 5)))) (re_op o_mulS re_int (re_slot (pv 3)))) re_int))
 (rs_one (rs_ret (re_op o_mod (re_op o_div (re_op o_mod (re_op o_mulS (re_slot (pv 6)) (re_op o_add (re_op o_mod (re_slot (pv 6)) re_int) re_int)) re_int) re_int) (re_slot (pv 1)))))))))))))
theorem sc_law_wide : FnScope ["_law_pen", "_law_many", "_law_found", "_law_k"] ["_law_pen", "_law_many"] (defScope s_law_wide) := ⟨rfl, rfl, rfl, by decide +kernel, rfl, by decide +kernel, by decide +kernel⟩
theorem ok_law_wide {f : Addr} {fd : FuncData} (T : Txt K mg) (F : Fun K "_law_wide" "_law_wide" s_law_wide f fd) : FnOkG P w K mg base CX0 2 f fd ["_law_pen", "_law_many"] (spOf 2 c_law_wide K) := by
  obtain ⟨f_law_take, fd_law_take, m_law_take, F_law_take, b_law_take⟩ := T.f_law_take.ex
  have G_law_take := ok_law_take (P := P) (w := w) (base := base) T F_law_take
  have nd := sc_law_wide.nd
  exact fn_data (k := 1) F sc_law_wide (by decide) fun cdv A outer s H E hr => (rs_cons (rs_if (rt_cmp o_lt (re_slot (pv 1)) (re_op o_pow re_int re_int) (nomark _))
 (rs_one (rs_ret (re_user runF_len G_law_take (hr.mono (by decide)) (by rfl) m_law_take F_law_take.kp b_law_take (ra_cons (re_slot (pv 0)) (ra_cons (re_slot (pv 1)) ra_nil)))))
 rs_nil)
 (rs_cons (rs_set (i := 2) nd rfl (by first | exact Or.inl rfl | exact Or.inr rfl) re_int)
 (rs_cons (rs_for PassesOwn.never rfl (ri_range1 (by rfl) T.z_range (re_op o_add (re_op o_div (re_callB c_len (by rfl) T.z_len (by decide +kernel) (ra_cons (re_callTy c_str (by rfl) T.z_str (by decide +kernel) (ra_cons (re_slot (pv 1)) ra_nil)) ra_nil)) re_int) re_int)) (rg_slot (pg_name (i := 3) nd rfl (by first | exact Or.inl rfl | exact Or.inr rfl)))
 (rs_one (rs_set (i := 2) nd rfl (by first | exact Or.inl rfl | exact Or.inr rfl) (re_op o_add (re_op o_mulS (re_slot (pv 2)) (re_op o_pow re_int re_int)) (re_user runF_len G_law_take (hr.mono (by decide)) (by rfl) m_law_take F_law_take.kp b_law_take (ra_cons (re_slot (pv 0)) (ra_cons (re_op o_pow re_int re_int) ra_nil)))))))
 (rs_one (rs_ret (re_op o_mod (re_slot (pv 2)) (re_slot (pv 1))))))))
theorem sc_law_number : FnScope ["_law_pen", "_law_far", "_law_some"] ["_law_pen"] (defScope s_law_number) := ⟨rfl, rfl, rfl, by decide +kernel, rfl, by decide +kernel, by decide +kernel⟩
theorem ok_law_number {f : Addr} {fd : FuncData} (T : Txt K mg) (F : Fun K "_law_number" "_law_number" s_law_number f fd) : FnOkG P w K mg base CX0 3 f fd ["_law_pen"] (spOf 1 c_law_number K) := by
  obtain ⟨f_law_take, fd_law_take, m_law_take, F_law_take, b_law_take⟩ := T.f_law_take.ex
  have G_law_take := ok_law_take (P := P) (w := w) (base := base) T F_law_take
  obtain ⟨f_law_wide, fd_law_wide, m_law_wide, F_law_wide, b_law_wide⟩ := T.f_law_wide.ex
  have G_law_wide := ok_law_wide (P := P) (w := w) (base := base) T F_law_wide
  have nd := sc_law_number.nd
  exact fn_data (k := 2) F sc_law_number (by decide) fun cdv A outer s H E hr => (rs_cons (rs_set (i := 1) nd rfl (by first | exact Or.inl rfl | exact Or.inr rfl) (re_op o_sub (re_op o_pow re_int re_int) re_int))
 (rs_cons (rs_set (i := 2) nd rfl (by first | exact Or.inl rfl | exact Or.inr rfl) (re_lst (ra_cons (re_op o_sub (re_user runF_len G_law_take (hr.mono (by decide)) (by rfl) m_law_take F_law_take.kp b_law_take (ra_cons (re_slot (pv 0)) (ra_cons re_int ra_nil))) re_int) (ra_cons (re_op o_sub (re_user runF_len G_law_take (hr.mono (by decide)) (by rfl) m_law_take F_law_take.kp b_law_take (ra_cons (re_slot (pv 0)) (ra_cons re_int ra_nil))) re_int) (ra_cons (re_op o_sub (re_user runF_len G_law_wide (hr.mono (by decide)) (by rfl) m_law_wide F_law_wide.kp b_law_wide (ra_cons (re_slot (pv 0)) (ra_cons (re_op o_add (re_op o_mulS re_int (re_slot (pv 1))) re_int) ra_nil))) (re_slot (pv 1))) (ra_cons (re_slot (pv 1)) (ra_cons (re_op o_sub re_int (re_slot (pv 1))) ra_nil)))))))
 (rs_one (rs_ret (re_ix (o_ix hr.u65) (re_slot (pv 2)) (re_user runF_len G_law_take (hr.mono (by decide)) (by rfl) m_law_take F_law_take.kp b_law_take (ra_cons (re_slot (pv 0)) (ra_cons re_int ra_nil))) (fun _ _ => rfl))))))
theorem sc_law_spot : FnScope ["_law_pen"] ["_law_pen"] (defScope s_law_spot) := ⟨rfl, rfl, rfl, by decide +kernel, rfl, by decide +kernel, by decide +kernel⟩
theorem ok_law_spot {f : Addr} {fd : FuncData} (T : Txt K mg) (F : Fun K "_law_spot" "_law_spot" s_law_spot f fd) : FnOkG P w K mg base CX0 4 f fd ["_law_pen"] (spOf 1 c_law_spot K) := by
  obtain ⟨f_law_number, fd_law_number, m_law_number, F_law_number, b_law_number⟩ := T.f_law_number.ex
  have G_law_number := ok_law_number (P := P) (w := w) (base := base) T F_law_number
  have nd := sc_law_spot.nd
  exact fn_data (k := 3) F sc_law_spot (by decide) fun cdv A outer s H E hr => (rs_one (rs_ret (re_tup (ra_cons (re_user runF_len G_law_number (hr.mono (by decide)) (by rfl) m_law_number F_law_number.kp b_law_number (ra_cons (re_slot (pv 0)) ra_nil)) (ra_cons (re_user runF_len G_law_number (hr.mono (by decide)) (by rfl) m_law_number F_law_number.kp b_law_number (ra_cons (re_slot (pv 0)) ra_nil)) ra_nil)))))
theorem sc_law_box : FnScope ["_law_pen", "_law_one", "_law_other"] ["_law_pen"] (defScope s_law_box) := ⟨rfl, rfl, rfl, by decide +kernel, rfl, by decide +kernel, by decide +kernel⟩
theorem ok_law_box {f : Addr} {fd : FuncData} (T : Txt K mg) (F : Fun K "_law_box" "_law_box" s_law_box f fd) : FnOkG P w K mg base CX0 5 f fd ["_law_pen"] (spOf 1 c_law_box K) := by
  obtain ⟨f_law_spot, fd_law_spot, m_law_spot, F_law_spot, b_law_spot⟩ := T.f_law_spot.ex
  have G_law_spot := ok_law_spot (P := P) (w := w) (base := base) T F_law_spot
  obtain ⟨f_law_take, fd_law_take, m_law_take, F_law_take, b_law_take⟩ := T.f_law_take.ex
  have G_law_take := ok_law_take (P := P) (w := w) (base := base) T F_law_take
  have nd := sc_law_box.nd
  exact fn_data (k := 4) F sc_law_box (by decide) fun cdv A outer s H E hr => (rs_cons (rs_set (i := 1) nd rfl (by first | exact Or.inl rfl | exact Or.inr rfl) (re_user runF_len G_law_spot (hr.mono (by decide)) (by rfl) m_law_spot F_law_spot.kp b_law_spot (ra_cons (re_slot (pv 0)) ra_nil)))
 (rs_cons (rs_set (i := 2) nd rfl (by first | exact Or.inl rfl | exact Or.inr rfl) (re_ix (o_ix hr.u65) (re_lst (ra_cons (re_slot (pv 1)) (ra_cons (re_user runF_len G_law_spot (hr.mono (by decide)) (by rfl) m_law_spot F_law_spot.kp b_law_spot (ra_cons (re_slot (pv 0)) ra_nil)) ra_nil))) (re_user runF_len G_law_take (hr.mono (by decide)) (by rfl) m_law_take F_law_take.kp b_law_take (ra_cons (re_slot (pv 0)) (ra_cons re_int ra_nil))) (fun _ _ => rfl)))
 (rs_one (rs_ret (re_tup (ra_cons (re_tup (ra_cons (re_callB (c_min rfl) (by rfl) T.z_min (by decide +kernel) (ra_cons (re_ix (o_ix hr.u65) (re_slot (pv 1)) re_int (fun _ _ => rfl)) (ra_cons (re_ix (o_ix hr.u65) (re_slot (pv 2)) re_int (fun _ _ => rfl)) ra_nil))) (ra_cons (re_callB (c_min rfl) (by rfl) T.z_min (by decide +kernel) (ra_cons (re_ix (o_ix hr.u65) (re_slot (pv 1)) re_int (fun _ _ => rfl)) (ra_cons (re_ix (o_ix hr.u65) (re_slot (pv 2)) re_int (fun _ _ => rfl)) ra_nil))) ra_nil))) (ra_cons (re_tup (ra_cons (re_callB (c_max rfl) (by rfl) T.z_max (by decide +kernel) (ra_cons (re_ix (o_ix hr.u65) (re_slot (pv 1)) re_int (fun _ _ => rfl)) (ra_cons (re_ix (o_ix hr.u65) (re_slot (pv 2)) re_int (fun _ _ => rfl)) ra_nil))) (ra_cons (re_callB (c_max rfl) (by rfl) T.z_max (by decide +kernel) (ra_cons (re_ix (o_ix hr.u65) (re_slot (pv 1)) re_int (fun _ _ => rfl)) (ra_cons (re_ix (o_ix hr.u65) (re_slot (pv 2)) re_int (fun _ _ => rfl)) ra_nil))) ra_nil))) ra_nil)))))))
theorem sc_law_odd : FnScope ["_law_pen", "_law_far", "_law_some"] ["_law_pen"] (defScope s_law_odd) := ⟨rfl, rfl, rfl, by decide +kernel, rfl, by decide +kernel, by decide +kernel⟩
theorem ok_law_odd {f : Addr} {fd : FuncData} (T : Txt K mg) (F : Fun K "_law_odd" "_law_odd" s_law_odd f fd) : FnOkG P w K mg base CX0 2 f fd ["_law_pen"] (spOf 1 c_law_odd K) := by
  obtain ⟨f_law_take, fd_law_take, m_law_take, F_law_take, b_law_take⟩ := T.f_law_take.ex
  have G_law_take := ok_law_take (P := P) (w := w) (base := base) T F_law_take
  have nd := sc_law_odd.nd
  exact fn_data (k := 1) F sc_law_odd (by decide) fun cdv A outer s H E hr => (rs_cons (rs_set (i := 1) nd rfl (by first | exact Or.inl rfl | exact Or.inr rfl) (re_op o_pow re_int re_int))
 (rs_cons (rs_set (i := 2) nd rfl (by first | exact Or.inl rfl | exact Or.inr rfl) (re_lst (ra_cons re_bl (ra_cons re_bl (ra_cons re_non (ra_cons re_str (ra_cons re_str (ra_cons (re_slot (pv 1)) (ra_cons (re_op o_sub re_int (re_slot (pv 1))) (ra_cons (re_op o_mulS (re_slot (pv 1)) (re_op o_pow re_int re_int)) (ra_cons (re_op o_sub (re_op o_sub re_int (re_slot (pv 1))) (re_user runF_len G_law_take (hr.mono (by decide)) (by rfl) m_law_take F_law_take.kp b_law_take (ra_cons (re_slot (pv 0)) (ra_cons re_int ra_nil)))) (ra_cons (re_lst (ra_cons re_int ra_nil)) (ra_cons (re_tup (ra_cons re_int ra_nil)) (ra_cons (re_tup ra_nil) (ra_cons re_dict0 ra_nil)))))))))))))))
 (rs_one (rs_ret (re_ix (o_ix hr.u65) (re_slot (pv 2)) (re_user runF_len G_law_take (hr.mono (by decide)) (by rfl) m_law_take F_law_take.kp b_law_take (ra_cons (re_slot (pv 0)) (ra_cons (re_callB c_len (by rfl) T.z_len (by decide +kernel) (ra_cons (re_slot (pv 2)) ra_nil)) ra_nil))) (fun _ _ => rfl))))))
theorem sc_law_no_spots : FnScope ["_law_pen", "_law_spot_here", "_law_x", "_law_y", "_law_odd_here", "_law_some"] ["_law_pen", "_law_spot_here"] (defScope s_law_no_spots) := ⟨rfl, rfl, rfl, by decide +kernel, rfl, by decide +kernel, by decide +kernel⟩
theorem ok_law_no_spots {f : Addr} {fd : FuncData} (T : Txt K mg) (F : Fun K "_law_no_spots" "_law_no_spots" s_law_no_spots f fd) : FnOkG P w K mg base CX0 3 f fd ["_law_pen", "_law_spot_here"] (spOf 2 c_law_no_spots K) := by
  obtain ⟨f_law_odd, fd_law_odd, m_law_odd, F_law_odd, b_law_odd⟩ := T.f_law_odd.ex
  have G_law_odd := ok_law_odd (P := P) (w := w) (base := base) T F_law_odd
  have nd := sc_law_no_spots.nd
  exact fn_data (k := 2) F sc_law_no_spots (by decide) fun cdv A outer s H E hr => (rs_cons (rs_asg (re_slot (pv 1)) (rg_tup rfl (rgs_cons (rg_slot (pg_name (i := 2) nd rfl (by first | exact Or.inl rfl | exact Or.inr rfl))) (rgs_cons (rg_slot (pg_name (i := 3) nd rfl (by first | exact Or.inl rfl | exact Or.inr rfl))) rgs_nil))))
 (rs_cons (rs_set (i := 4) nd rfl (by first | exact Or.inl rfl | exact Or.inr rfl) (re_user runF_len G_law_odd (hr.mono (by decide)) (by rfl) m_law_odd F_law_odd.kp b_law_odd (ra_cons (re_slot (pv 0)) ra_nil)))
 (rs_cons (rs_set (i := 5) nd rfl (by first | exact Or.inl rfl | exact Or.inr rfl) (re_lst (ra_cons (re_lst (ra_cons (re_slot (pv 2)) (ra_cons (re_slot (pv 3)) ra_nil))) (ra_cons (re_tup (ra_cons (re_slot (pv 2)) ra_nil)) (ra_cons (re_tup (ra_cons (re_slot (pv 2)) (ra_cons (re_slot (pv 3)) (ra_cons re_int ra_nil)))) (ra_cons (re_tup (ra_cons (re_slot (pv 4)) (ra_cons (re_slot (pv 3)) ra_nil))) (ra_cons (re_tup (ra_cons (re_slot (pv 2)) (ra_cons (re_slot (pv 4)) ra_nil))) (ra_cons (re_tup (ra_cons (re_slot (pv 4)) (ra_cons (re_slot (pv 4)) ra_nil))) (ra_cons re_non (ra_cons re_int (ra_cons re_bl (ra_cons re_str (ra_cons re_str (ra_cons (re_tup ra_nil) (ra_cons (re_lst ra_nil) (ra_cons re_dict0 (ra_cons (re_dict (ps := [((eSlot 2), (eSlot 3))]) (pps_cons (re_slot (pv 2)) (re_slot (pv 3)) pps_nil)) ra_nil)))))))))))))))))
 (rs_one (rs_ret (re_op o_add (re_slot (pv 5)) (re_lst (ra_cons (re_tup (ra_cons (re_slot (pv 1)) (ra_cons (re_slot (pv 1)) ra_nil))) (ra_cons (re_tup (ra_cons (re_slot (pv 1)) ra_nil)) (ra_cons (re_tup (ra_cons (re_tup (ra_cons (re_slot (pv 2)) ra_nil)) (ra_cons (re_slot (pv 3)) ra_nil))) (ra_cons (re_slot (pv 2)) (ra_cons (re_dict (ps := [((eLit (.str "x")), (eSlot 2)), ((eLit (.str "y")), (eSlot 3))]) (pps_cons re_str (re_slot (pv 2)) (pps_cons re_str (re_slot (pv 3)) pps_nil))) ra_nil))))))))))))
theorem sc_law_no_boxes : FnScope ["_law_pen", "_law_box_here", "_law_low", "_law_high", "_law_odd_here", "_law_way", "_law_above", "_law_some"] ["_law_pen", "_law_box_here"] (defScope s_law_no_boxes) := ⟨rfl, rfl, rfl, by decide +kernel, rfl, by decide +kernel, by decide +kernel⟩
theorem ok_law_no_boxes {f : Addr} {fd : FuncData} (T : Txt K mg) (F : Fun K "_law_no_boxes" "_law_no_boxes" s_law_no_boxes f fd) : FnOkG P w K mg base CX0 3 f fd ["_law_pen", "_law_box_here"] (spOf 2 c_law_no_boxes K) := by
  obtain ⟨f_law_odd, fd_law_odd, m_law_odd, F_law_odd, b_law_odd⟩ := T.f_law_odd.ex
  have G_law_odd := ok_law_odd (P := P) (w := w) (base := base) T F_law_odd
  obtain ⟨f_law_take, fd_law_take, m_law_take, F_law_take, b_law_take⟩ := T.f_law_take.ex
  have G_law_take := ok_law_take (P := P) (w := w) (base := base) T F_law_take
  have nd := sc_law_no_boxes.nd
  exact fn_data (k := 2) F sc_law_no_boxes (by decide) fun cdv A outer s H E hr => (rs_cons (rs_asg (re_slot (pv 1)) (rg_tup rfl (rgs_cons (rg_slot (pg_name (i := 2) nd rfl (by first | exact Or.inl rfl | exact Or.inr rfl))) (rgs_cons (rg_slot (pg_name (i := 3) nd rfl (by first | exact Or.inl rfl | exact Or.inr rfl))) rgs_nil))))
 (rs_cons (rs_set (i := 4) nd rfl (by first | exact Or.inl rfl | exact Or.inr rfl) (re_user runF_len G_law_odd (hr.mono (by decide)) (by rfl) m_law_odd F_law_odd.kp b_law_odd (ra_cons (re_slot (pv 0)) ra_nil)))
 (rs_cons (rs_set (i := 5) nd rfl (by first | exact Or.inl rfl | exact Or.inr rfl) (re_user runF_len G_law_take (hr.mono (by decide)) (by rfl) m_law_take F_law_take.kp b_law_take (ra_cons (re_slot (pv 0)) (ra_cons re_int ra_nil))))
 (rs_cons (rs_set (i := 6) nd rfl (by first | exact Or.inl rfl | exact Or.inr rfl) (re_ix (o_ix hr.u65) (re_lst (ra_cons (re_tup (ra_cons (re_op o_add (re_ix (o_ix hr.u65) (re_slot (pv 3)) re_int (fun _ _ => rfl)) re_int) (ra_cons (re_ix (o_ix hr.u65) (re_slot (pv 2)) re_int (fun _ _ => rfl)) ra_nil))) (ra_cons (re_tup (ra_cons (re_ix (o_ix hr.u65) (re_slot (pv 2)) re_int (fun _ _ => rfl)) (ra_cons (re_op o_add (re_ix (o_ix hr.u65) (re_slot (pv 3)) re_int (fun _ _ => rfl)) re_int) ra_nil))) ra_nil))) (re_slot (pv 5)) (fun _ _ => rfl)))
 (rs_cons (rs_set (i := 7) nd rfl (by first | exact Or.inl rfl | exact Or.inr rfl) (re_lst (ra_cons (re_lst (ra_cons (re_slot (pv 2)) (ra_cons (re_slot (pv 3)) ra_nil))) (ra_cons (re_tup (ra_cons (re_slot (pv 2)) ra_nil)) (ra_cons (re_tup (ra_cons (re_slot (pv 2)) (ra_cons (re_slot (pv 3)) (ra_cons (re_slot (pv 3)) ra_nil)))) (ra_cons (re_tup (ra_cons (re_callTy (c_list rfl) (by rfl) T.z_list (by decide +kernel) (ra_cons (re_slot (pv 2)) ra_nil)) (ra_cons (re_slot (pv 3)) ra_nil))) (ra_cons (re_tup (ra_cons (re_slot (pv 2)) (ra_cons (re_callTy (c_list rfl) (by rfl) T.z_list (by decide +kernel) (ra_cons (re_slot (pv 3)) ra_nil)) ra_nil))) (ra_cons (re_slot (pv 2)) (ra_cons (re_tup (ra_cons (re_slot (pv 6)) (ra_cons (re_slot (pv 3)) ra_nil))) (ra_cons (re_tup ra_nil) (ra_cons re_non ra_nil)))))))))))
 (rs_cons (rs_set (i := 7) nd rfl (by first | exact Or.inl rfl | exact Or.inr rfl) (re_op o_add (re_slot (pv 7)) (re_lst (ra_cons (re_tup (ra_cons (re_tup (ra_cons (re_slot (pv 4)) (ra_cons (re_ix (o_ix hr.u65) (re_slot (pv 2)) re_int (fun _ _ => rfl)) ra_nil))) (ra_cons (re_slot (pv 3)) ra_nil))) (ra_cons (re_tup (ra_cons (re_tup (ra_cons (re_ix (o_ix hr.u65) (re_slot (pv 2)) re_int (fun _ _ => rfl)) (ra_cons (re_slot (pv 4)) ra_nil))) (ra_cons (re_slot (pv 3)) ra_nil))) (ra_cons (re_tup (ra_cons (re_slot (pv 2)) (ra_cons (re_tup (ra_cons (re_slot (pv 4)) (ra_cons (re_ix (o_ix hr.u65) (re_slot (pv 3)) re_int (fun _ _ => rfl)) ra_nil))) ra_nil))) (ra_cons (re_tup (ra_cons (re_slot (pv 2)) (ra_cons (re_tup (ra_cons (re_ix (o_ix hr.u65) (re_slot (pv 3)) re_int (fun _ _ => rfl)) (ra_cons (re_slot (pv 4)) ra_nil))) ra_nil))) ra_nil)))))))
 (rs_cons (rs_set (i := 7) nd rfl (by first | exact Or.inl rfl | exact Or.inr rfl) (re_op o_add (re_slot (pv 7)) (re_lst (ra_cons (re_tup (ra_cons (re_op o_add (re_slot (pv 2)) (re_tup (ra_cons re_int ra_nil))) (ra_cons (re_slot (pv 3)) ra_nil))) (ra_cons (re_tup (ra_cons (re_slot (pv 2)) (ra_cons (re_op o_add (re_slot (pv 3)) (re_tup (ra_cons re_int ra_nil))) ra_nil))) (ra_cons (re_tup (ra_cons (re_slot (pv 1)) (ra_cons (re_slot (pv 1)) ra_nil))) (ra_cons (re_tup (ra_cons (re_slot (pv 1)) ra_nil)) (ra_cons re_bl (ra_cons re_int (ra_cons re_str (ra_cons (re_lst ra_nil) (ra_cons re_dict0 (ra_cons (re_dictT (ps := [((eSlot 2), (eSlot 3))]) hr.u65 (pps_cons (re_slot (pv 2)) (re_slot (pv 3)) pps_nil)) ra_nil)))))))))))))
 (rs_cons (rs_if (rt_cmp (o_ne hr.units) (re_slot (pv 2)) (re_slot (pv 3)) (nomark _))
 (rs_one (rs_expr (re_app (pv 7) (re_tup (ra_cons (re_slot (pv 3)) (ra_cons (re_slot (pv 2)) ra_nil))))))
 rs_nil)
 (rs_one (rs_ret (re_op o_add (re_slot (pv 7)) (re_lst (ra_cons (re_tup (ra_cons (re_slot (pv 4)) (ra_cons (re_slot (pv 3)) ra_nil))) (ra_cons (re_tup (ra_cons (re_slot (pv 2)) (ra_cons (re_slot (pv 4)) ra_nil))) (ra_cons (re_tup (ra_cons (re_sl (re_slot (pv 2)) ro_no (ro_sm re_int)) (ra_cons (re_slot (pv 3)) ra_nil))) (ra_cons (re_tup (ra_cons (re_ix (o_ix hr.u65) (re_slot (pv 2)) re_int (fun _ _ => rfl)) (ra_cons (re_ix (o_ix hr.u65) (re_slot (pv 3)) re_int (fun _ _ => rfl)) ra_nil))) (ra_cons (re_op o_add (re_slot (pv 2)) (re_slot (pv 3))) ra_nil)))))))))))))))))
theorem sc_law : FnScope ["_law_script", "_law_pen", "_law_k", "_law_spot_here", "_law_box_here", "_law_thing", "_law_kept"] ["_law_script"] (defScope s_law) := ⟨rfl, rfl, rfl, by decide +kernel, rfl, by decide +kernel, by decide +kernel⟩
theorem ok_law {f : Addr} {fd : FuncData} (T : Txt K mg) (F : Fun K "law" "law" s_law f fd) : FnOkG P w K mg base CX0 6 f fd ["_law_script"] (spOf 1 c_law K) := by
  obtain ⟨f_law_spot, fd_law_spot, m_law_spot, F_law_spot, b_law_spot⟩ := T.f_law_spot.ex
  have G_law_spot := ok_law_spot (P := P) (w := w) (base := base) T F_law_spot
  obtain ⟨f_law_box, fd_law_box, m_law_box, F_law_box, b_law_box⟩ := T.f_law_box.ex
  have G_law_box := ok_law_box (P := P) (w := w) (base := base) T F_law_box
  obtain ⟨f_is_spot, fd_is_spot, m_is_spot, F_is_spot, b_is_spot⟩ := T.f_is_spot.ex
  have G_is_spot := ok_is_spot (P := P) (w := w) (base := base) T F_is_spot
  obtain ⟨f_is_box, fd_is_box, m_is_box, F_is_box, b_is_box⟩ := T.f_is_box.ex
  have G_is_box := ok_is_box (P := P) (w := w) (base := base) T F_is_box
  obtain ⟨f_law_no_spots, fd_law_no_spots, m_law_no_spots, F_law_no_spots, b_law_no_spots⟩ := T.f_law_no_spots.ex
  have G_law_no_spots := ok_law_no_spots (P := P) (w := w) (base := base) T F_law_no_spots
  obtain ⟨f_law_no_boxes, fd_law_no_boxes, m_law_no_boxes, F_law_no_boxes, b_law_no_boxes⟩ := T.f_law_no_boxes.ex
  have G_law_no_boxes := ok_law_no_boxes (P := P) (w := w) (base := base) T F_law_no_boxes
  have nd := sc_law.nd
  exact fn_data (k := 5) F sc_law (by decide) fun cdv A outer s H E hr => (rs_cons (rs_set (i := 1) nd rfl (by first | exact Or.inl rfl | exact Or.inr rfl) (re_lst (ra_cons (re_slot (pv 0)) (ra_cons re_int (ra_cons re_int ra_nil)))))
 (rs_cons (rs_for PassesOwn.never rfl (ri_range1 (by rfl) T.z_range re_int) (rg_slot (pg_name (i := 2) nd rfl (by first | exact Or.inl rfl | exact Or.inr rfl)))
 (rs_cons (rs_set (i := 3) nd rfl (by first | exact Or.inl rfl | exact Or.inr rfl) (re_user runF_len G_law_spot (hr.mono (by decide)) (by rfl) m_law_spot F_law_spot.kp b_law_spot (ra_cons (re_slot (pv 1)) ra_nil)))
 (rs_cons (rs_set (i := 4) nd rfl (by first | exact Or.inl rfl | exact Or.inr rfl) (re_user runF_len G_law_box (hr.mono (by decide)) (by rfl) m_law_box F_law_box.kp b_law_box (ra_cons (re_slot (pv 1)) ra_nil)))
 (rs_cons (rs_if (PW.pt (rw_or (rt_cmp o_isNot (re_user runF_len G_is_spot (hr.mono (by decide)) (by rfl) m_is_spot F_is_spot.kp b_is_spot (ra_cons (re_slot (pv 3)) ra_nil)) re_bl (nomark _)) (rw_or (rt_cmp o_isNot (re_user runF_len G_is_box (hr.mono (by decide)) (by rfl) m_is_box F_is_box.kp b_is_box (ra_cons (re_slot (pv 4)) ra_nil)) re_bl (nomark _)) (rw_or1 (rt_cmp o_isNot (re_user runF_len G_is_box (hr.mono (by decide)) (by rfl) m_is_box F_is_box.kp b_is_box (ra_cons (re_tup (ra_cons (re_slot (pv 3)) (ra_cons (re_slot (pv 3)) ra_nil))) ra_nil)) re_bl (nomark _))))))
 (rs_one (rs_ret re_bl))
 rs_nil)
 (rs_cons (rs_for PassesOwn.never rfl (ri_any (re_user runF_len G_law_no_spots (hr.mono (by decide)) (by rfl) m_law_no_spots F_law_no_spots.kp b_law_no_spots (ra_cons (re_slot (pv 1)) (ra_cons (re_slot (pv 3)) ra_nil)))) (rg_slot (pg_name (i := 5) nd rfl (by first | exact Or.inl rfl | exact Or.inr rfl)))
 (rs_cons (rs_set (i := 6) nd rfl (by first | exact Or.inl rfl | exact Or.inr rfl) (re_callB (c_repr hr) (by rfl) T.z_repr (by decide +kernel) (ra_cons (re_slot (pv 5)) ra_nil)))
 (rs_one (rs_if (PW.pt (rw_or (rt_cmp o_isNot (re_user runF_len G_is_spot (hr.mono (by decide)) (by rfl) m_is_spot F_is_spot.kp b_is_spot (ra_cons (re_slot (pv 5)) ra_nil)) re_bl (nomark _)) (rw_or1 (rt_cmp (o_ne hr.units) (re_callB (c_repr hr) (by rfl) T.z_repr (by decide +kernel) (ra_cons (re_slot (pv 5)) ra_nil)) (re_slot (pv 6)) (nomark _)))))
 (rs_one (rs_ret re_bl))
 rs_nil))))
 (rs_cons (rs_for PassesOwn.never rfl (ri_any (re_user runF_len G_law_no_boxes (hr.mono (by decide)) (by rfl) m_law_no_boxes F_law_no_boxes.kp b_law_no_boxes (ra_cons (re_slot (pv 1)) (ra_cons (re_slot (pv 4)) ra_nil)))) (rg_slot (pg_name (i := 5) nd rfl (by first | exact Or.inl rfl | exact Or.inr rfl)))
 (rs_cons (rs_set (i := 6) nd rfl (by first | exact Or.inl rfl | exact Or.inr rfl) (re_callB (c_repr hr) (by rfl) T.z_repr (by decide +kernel) (ra_cons (re_slot (pv 5)) ra_nil)))
 (rs_one (rs_if (PW.pt (rw_or (rt_cmp o_isNot (re_user runF_len G_is_box (hr.mono (by decide)) (by rfl) m_is_box F_is_box.kp b_is_box (ra_cons (re_slot (pv 5)) ra_nil)) re_bl (nomark _)) (rw_or1 (rt_cmp (o_ne hr.units) (re_callB (c_repr hr) (by rfl) T.z_repr (by decide +kernel) (ra_cons (re_slot (pv 5)) ra_nil)) (re_slot (pv 6)) (nomark _)))))
 (rs_one (rs_ret re_bl))
 rs_nil))))
 (rs_one (rs_if (PW.pt (rw_or (rt_cmp o_isNot (re_user runF_len G_is_spot (hr.mono (by decide)) (by rfl) m_is_spot F_is_spot.kp b_is_spot (ra_cons (re_slot (pv 4)) ra_nil)) re_bl (nomark _)) (rw_or1 (rt_cmp o_isNot (re_user runF_len G_is_box (hr.mono (by decide)) (by rfl) m_is_box F_is_box.kp b_is_box (ra_cons (re_slot (pv 3)) ra_nil)) re_bl (nomark _)))))
 (rs_one (rs_ret re_bl))
 rs_nil))))))))
 (rs_one (rs_ret re_bl))))
end
end G_k01

namespace G_k01
open PySem PySem.Spec PyProof.Rows L2 L3
theorem ints_rp {K : PySem.W.Frag} {F : Hp} : ∀ ns : List Int, RpAll K F (ns.map V.int) (ns.map PyData.int)
  | [] => .nil
  | n :: ns => .cons (.int n) (ints_rp ns)
theorem law_sp (main : ∀ ns : List Int, ns.length ≤ 63 → ∃ bs, c_law [.fz (.list (ns.map PyData.int))] = some (bs, .fz (.bool true))) (K : PySem.W.Frag) (H : Hp) (a : Addr) (ns : List Int) (hl : ns.length ≤ 63) (hS : SqL K H a (ns.map V.int)) :
    spOf 1 c_law K [.ref a] H (fun v _ => v = .bl true) fun _ _ _ => False := by
  obtain ⟨bs, e⟩ := main ns hl
  refine ⟨H, [.fz (.list (ns.map PyData.int))], rfl, rfl, ⟨Same.refl _, rfl, fun i x q => ?_, fun i j b ⟨x, d, h, g, _⟩ => ?_⟩, bs, _, e, fun v F' H' _ _ ok _ => ?_⟩
  · cases i with
    | zero =>
      cases q
      exact ⟨.ref a, rfl, .lst hS (ints_rp ns)⟩
    | succ i => simp at q
  · cases i with
    | zero =>
      cases h
      cases g
    | succ i => simp at h
  · cases (show Rp K F' v (.bool true) from ok)
    rfl
theorem all_mk {l : PySem.W.OpenLaw} {w : World} {K : PySem.W.Frag} {h : Heap} {mg : Str → Option Value} {fa : Addr} (X : K.In h) (G : h.Ns mainGlobals mg) (hfa : mg "law" = some (.ref fa))
    {f1 : Addr} {od1 an1 : Option Addr} {sl1 : Array (Option Value)} {oc1 kV1 dc1 pm1 cd1 ct1 : Value}
    {f2 : Addr} {od2 an2 : Option Addr} {sl2 : Array (Option Value)} {oc2 kV2 dc2 pm2 cd2 ct2 : Value}
    {f3 : Addr} {od3 an3 : Option Addr} {sl3 : Array (Option Value)} {oc3 kV3 dc3 pm3 cd3 ct3 : Value}
    {f4 : Addr} {od4 an4 : Option Addr} {sl4 : Array (Option Value)} {oc4 kV4 dc4 pm4 cd4 ct4 : Value}
    {f5 : Addr} {od5 an5 : Option Addr} {sl5 : Array (Option Value)} {oc5 kV5 dc5 pm5 cd5 ct5 : Value}
    {f6 : Addr} {od6 an6 : Option Addr} {sl6 : Array (Option Value)} {oc6 kV6 dc6 pm6 cd6 ct6 : Value}
    {f7 : Addr} {od7 an7 : Option Addr} {sl7 : Array (Option Value)} {oc7 kV7 dc7 pm7 cd7 ct7 : Value}
    {f8 : Addr} {od8 an8 : Option Addr} {sl8 : Array (Option Value)} {oc8 kV8 dc8 pm8 cd8 ct8 : Value}
    {f9 : Addr} {od9 an9 : Option Addr} {sl9 : Array (Option Value)} {oc9 kV9 dc9 pm9 cd9 ct9 : Value}
    {f10 : Addr} {od10 an10 : Option Addr} {sl10 : Array (Option Value)} {oc10 kV10 dc10 pm10 cd10 ct10 : Value}
    {f11 : Addr} {od11 an11 : Option Addr} {sl11 : Array (Option Value)} {oc11 kV11 dc11 pm11 cd11 ct11 : Value}
    {f12 : Addr} {od12 an12 : Option Addr} {sl12 : Array (Option Value)} {oc12 kV12 dc12 pm12 cd12 ct12 : Value}
    {f13 : Addr} {od13 an13 : Option Addr} {sl13 : Array (Option Value)} {oc13 kV13 dc13 pm13 cd13 ct13 : Value}
    {t_TOO_FAR : Tok}
    (a1 : PySem.W.nsIn K mainGlobals "is_whole" = some (some (.ref f1))) (l1 : K.lookup f1 = some ⟨oc1, od1, .func (PySem.W.fnOf "is_whole" "is_whole" (defArgs s_is_whole) (defBody s_is_whole) (defScope s_is_whole) .none kV1 dc1 pm1 an1 cd1 ct1), sl1⟩) (c1 : PySem.W.codeIn K cd1 "is_whole" = true) (k1 : PySem.W.keepIn K (.ref f1) = true)
    (a2 : PySem.W.nsIn K mainGlobals "is_near" = some (some (.ref f2))) (l2 : K.lookup f2 = some ⟨oc2, od2, .func (PySem.W.fnOf "is_near" "is_near" (defArgs s_is_near) (defBody s_is_near) (defScope s_is_near) .none kV2 dc2 pm2 an2 cd2 ct2), sl2⟩) (c2 : PySem.W.codeIn K cd2 "is_near" = true) (k2 : PySem.W.keepIn K (.ref f2) = true)
    (a3 : PySem.W.nsIn K mainGlobals "is_spot" = some (some (.ref f3))) (l3 : K.lookup f3 = some ⟨oc3, od3, .func (PySem.W.fnOf "is_spot" "is_spot" (defArgs s_is_spot) (defBody s_is_spot) (defScope s_is_spot) .none kV3 dc3 pm3 an3 cd3 ct3), sl3⟩) (c3 : PySem.W.codeIn K cd3 "is_spot" = true) (k3 : PySem.W.keepIn K (.ref f3) = true)
    (a4 : PySem.W.nsIn K mainGlobals "is_box" = some (some (.ref f4))) (l4 : K.lookup f4 = some ⟨oc4, od4, .func (PySem.W.fnOf "is_box" "is_box" (defArgs s_is_box) (defBody s_is_box) (defScope s_is_box) .none kV4 dc4 pm4 an4 cd4 ct4), sl4⟩) (c4 : PySem.W.codeIn K cd4 "is_box" = true) (k4 : PySem.W.keepIn K (.ref f4) = true)
    (a5 : PySem.W.nsIn K mainGlobals "_law_take" = some (some (.ref f5))) (l5 : K.lookup f5 = some ⟨oc5, od5, .func (PySem.W.fnOf "_law_take" "_law_take" (defArgs s_law_take) (defBody s_law_take) (defScope s_law_take) .none kV5 dc5 pm5 an5 cd5 ct5), sl5⟩) (c5 : PySem.W.codeIn K cd5 "_law_take" = true) (k5 : PySem.W.keepIn K (.ref f5) = true)
    (a6 : PySem.W.nsIn K mainGlobals "_law_wide" = some (some (.ref f6))) (l6 : K.lookup f6 = some ⟨oc6, od6, .func (PySem.W.fnOf "_law_wide" "_law_wide" (defArgs s_law_wide) (defBody s_law_wide) (defScope s_law_wide) .none kV6 dc6 pm6 an6 cd6 ct6), sl6⟩) (c6 : PySem.W.codeIn K cd6 "_law_wide" = true) (k6 : PySem.W.keepIn K (.ref f6) = true)
    (a7 : PySem.W.nsIn K mainGlobals "_law_number" = some (some (.ref f7))) (l7 : K.lookup f7 = some ⟨oc7, od7, .func (PySem.W.fnOf "_law_number" "_law_number" (defArgs s_law_number) (defBody s_law_number) (defScope s_law_number) .none kV7 dc7 pm7 an7 cd7 ct7), sl7⟩) (c7 : PySem.W.codeIn K cd7 "_law_number" = true) (k7 : PySem.W.keepIn K (.ref f7) = true)
    (a8 : PySem.W.nsIn K mainGlobals "_law_spot" = some (some (.ref f8))) (l8 : K.lookup f8 = some ⟨oc8, od8, .func (PySem.W.fnOf "_law_spot" "_law_spot" (defArgs s_law_spot) (defBody s_law_spot) (defScope s_law_spot) .none kV8 dc8 pm8 an8 cd8 ct8), sl8⟩) (c8 : PySem.W.codeIn K cd8 "_law_spot" = true) (k8 : PySem.W.keepIn K (.ref f8) = true)
    (a9 : PySem.W.nsIn K mainGlobals "_law_box" = some (some (.ref f9))) (l9 : K.lookup f9 = some ⟨oc9, od9, .func (PySem.W.fnOf "_law_box" "_law_box" (defArgs s_law_box) (defBody s_law_box) (defScope s_law_box) .none kV9 dc9 pm9 an9 cd9 ct9), sl9⟩) (c9 : PySem.W.codeIn K cd9 "_law_box" = true) (k9 : PySem.W.keepIn K (.ref f9) = true)
    (a10 : PySem.W.nsIn K mainGlobals "_law_odd" = some (some (.ref f10))) (l10 : K.lookup f10 = some ⟨oc10, od10, .func (PySem.W.fnOf "_law_odd" "_law_odd" (defArgs s_law_odd) (defBody s_law_odd) (defScope s_law_odd) .none kV10 dc10 pm10 an10 cd10 ct10), sl10⟩) (c10 : PySem.W.codeIn K cd10 "_law_odd" = true) (k10 : PySem.W.keepIn K (.ref f10) = true)
    (a11 : PySem.W.nsIn K mainGlobals "_law_no_spots" = some (some (.ref f11))) (l11 : K.lookup f11 = some ⟨oc11, od11, .func (PySem.W.fnOf "_law_no_spots" "_law_no_spots" (defArgs s_law_no_spots) (defBody s_law_no_spots) (defScope s_law_no_spots) .none kV11 dc11 pm11 an11 cd11 ct11), sl11⟩) (c11 : PySem.W.codeIn K cd11 "_law_no_spots" = true) (k11 : PySem.W.keepIn K (.ref f11) = true)
    (a12 : PySem.W.nsIn K mainGlobals "_law_no_boxes" = some (some (.ref f12))) (l12 : K.lookup f12 = some ⟨oc12, od12, .func (PySem.W.fnOf "_law_no_boxes" "_law_no_boxes" (defArgs s_law_no_boxes) (defBody s_law_no_boxes) (defScope s_law_no_boxes) .none kV12 dc12 pm12 an12 cd12 ct12), sl12⟩) (c12 : PySem.W.codeIn K cd12 "_law_no_boxes" = true) (k12 : PySem.W.keepIn K (.ref f12) = true)
    (a13 : PySem.W.nsIn K mainGlobals "law" = some (some (.ref f13))) (l13 : K.lookup f13 = some ⟨oc13, od13, .func (PySem.W.fnOf "law" "law" (defArgs s_law) (defBody s_law) (defScope s_law) .none kV13 dc13 pm13 an13 cd13 ct13), sl13⟩) (c13 : PySem.W.codeIn K cd13 "law" = true) (k13 : PySem.W.keepIn K (.ref f13) = true)
    (z_isinstance : PySem.W.nsIn K mainGlobals "isinstance" = some none)
    (z_int : PySem.W.nsIn K mainGlobals "int" = some none)
    (z_bool : PySem.W.nsIn K mainGlobals "bool" = some none)
    (z_abs : PySem.W.nsIn K mainGlobals "abs" = some none)
    (z_tuple : PySem.W.nsIn K mainGlobals "tuple" = some none)
    (z_len : PySem.W.nsIn K mainGlobals "len" = some none)
    (z_range : PySem.W.nsIn K mainGlobals "range" = some none)
    (z_str : PySem.W.nsIn K mainGlobals "str" = some none)
    (z_min : PySem.W.nsIn K mainGlobals "min" = some none)
    (z_max : PySem.W.nsIn K mainGlobals "max" = some none)
    (z_list : PySem.W.nsIn K mainGlobals "list" = some none)
    (z_repr : PySem.W.nsIn K mainGlobals "repr" = some none)
    (g_TOO_FAR : PySem.W.nsIn K mainGlobals "TOO_FAR" = some (some (.int 1000000000000 t_TOO_FAR)))
    : ∃ fd : FuncData, (∀ (s : Shared) (u : Value), BindsTo s fd ⟨[u], []⟩ [("_law_script", u)]) ∧ ∀ base : Heap, K.In base → base.Ns mainGlobals mg → FnOkG l.prog w K mg base CX0 6 fa fd ["_law_script"] (spOf 1 c_law K) := by
  have e := hfa.symm.trans (PySem.W.mg_of X G a13)
  cases e
  have F1 := fun_mk (st := s_is_whole) l1 c1 k1
  have b1 := F1.binds (ps := ["thing"]) fun _ _ _ _ _ _ us hl => match us, hl with | [_], _ => rfl
  have F2 := fun_mk (st := s_is_near) l2 c2 k2
  have b2 := F2.binds (ps := ["thing"]) fun _ _ _ _ _ _ us hl => match us, hl with | [_], _ => rfl
  have F3 := fun_mk (st := s_is_spot) l3 c3 k3
  have b3 := F3.binds (ps := ["thing"]) fun _ _ _ _ _ _ us hl => match us, hl with | [_], _ => rfl
  have F4 := fun_mk (st := s_is_box) l4 c4 k4
  have b4 := F4.binds (ps := ["thing"]) fun _ _ _ _ _ _ us hl => match us, hl with | [_], _ => rfl
  have F5 := fun_mk (st := s_law_take) l5 c5 k5
  have b5 := F5.binds (ps := ["_law_pen", "_law_many"]) fun _ _ _ _ _ _ us hl => match us, hl with | [_, _], _ => rfl
  have F6 := fun_mk (st := s_law_wide) l6 c6 k6
  have b6 := F6.binds (ps := ["_law_pen", "_law_many"]) fun _ _ _ _ _ _ us hl => match us, hl with | [_, _], _ => rfl
  have F7 := fun_mk (st := s_law_number) l7 c7 k7
  have b7 := F7.binds (ps := ["_law_pen"]) fun _ _ _ _ _ _ us hl => match us, hl with | [_], _ => rfl
  have F8 := fun_mk (st := s_law_spot) l8 c8 k8
  have b8 := F8.binds (ps := ["_law_pen"]) fun _ _ _ _ _ _ us hl => match us, hl with | [_], _ => rfl
  have F9 := fun_mk (st := s_law_box) l9 c9 k9
  have b9 := F9.binds (ps := ["_law_pen"]) fun _ _ _ _ _ _ us hl => match us, hl with | [_], _ => rfl
  have F10 := fun_mk (st := s_law_odd) l10 c10 k10
  have b10 := F10.binds (ps := ["_law_pen"]) fun _ _ _ _ _ _ us hl => match us, hl with | [_], _ => rfl
  have F11 := fun_mk (st := s_law_no_spots) l11 c11 k11
  have b11 := F11.binds (ps := ["_law_pen", "_law_spot_here"]) fun _ _ _ _ _ _ us hl => match us, hl with | [_, _], _ => rfl
  have F12 := fun_mk (st := s_law_no_boxes) l12 c12 k12
  have b12 := F12.binds (ps := ["_law_pen", "_law_box_here"]) fun _ _ _ _ _ _ us hl => match us, hl with | [_, _], _ => rfl
  have F13 := fun_mk (st := s_law) l13 c13 k13
  have b13 := F13.binds (ps := ["_law_script"]) fun _ _ _ _ _ _ us hl => match us, hl with | [_], _ => rfl
  have T : Txt K mg := {
    z_isinstance := PySem.W.mg_none_of X G z_isinstance,
    z_int := PySem.W.mg_none_of X G z_int,
    z_bool := PySem.W.mg_none_of X G z_bool,
    z_abs := PySem.W.mg_none_of X G z_abs,
    z_tuple := PySem.W.mg_none_of X G z_tuple,
    z_len := PySem.W.mg_none_of X G z_len,
    z_range := PySem.W.mg_none_of X G z_range,
    z_str := PySem.W.mg_none_of X G z_str,
    z_min := PySem.W.mg_none_of X G z_min,
    z_max := PySem.W.mg_none_of X G z_max,
    z_list := PySem.W.mg_none_of X G z_list,
    z_repr := PySem.W.mg_none_of X G z_repr,
    g_TOO_FAR := ⟨_, PySem.W.mg_of X G g_TOO_FAR⟩,
    f_is_whole := ⟨_, _, PySem.W.mg_of X G a1, F1, b1⟩,
    f_is_near := ⟨_, _, PySem.W.mg_of X G a2, F2, b2⟩,
    f_is_spot := ⟨_, _, PySem.W.mg_of X G a3, F3, b3⟩,
    f_is_box := ⟨_, _, PySem.W.mg_of X G a4, F4, b4⟩,
    f_law_take := ⟨_, _, PySem.W.mg_of X G a5, F5, b5⟩,
    f_law_wide := ⟨_, _, PySem.W.mg_of X G a6, F6, b6⟩,
    f_law_number := ⟨_, _, PySem.W.mg_of X G a7, F7, b7⟩,
    f_law_spot := ⟨_, _, PySem.W.mg_of X G a8, F8, b8⟩,
    f_law_box := ⟨_, _, PySem.W.mg_of X G a9, F9, b9⟩,
    f_law_odd := ⟨_, _, PySem.W.mg_of X G a10, F10, b10⟩,
    f_law_no_spots := ⟨_, _, PySem.W.mg_of X G a11, F11, b11⟩,
    f_law_no_boxes := ⟨_, _, PySem.W.mg_of X G a12, F12, b12⟩,
    f_law := ⟨_, _, PySem.W.mg_of X G a13, F13, b13⟩ }
  exact ⟨_, fun s v => .of_eq rfl, fun base _ _ => ok_law T F13⟩
end G_k01
open PySem PySem.W PyProof.Rows
set_option maxRecDepth 100000 in
set_option maxHeartbeats 0 in
theorem PySem.Challenge.cw_landsentered_k01_spots_and_boxes_holds : PySem.Challenge.rw_landsentered_k01_spots_and_boxes.Holds := by
  w_on; o_law; k_head; (case hw => w_witness2)
  k_fill
  refine L3.walk_G (l := PySem.Challenge.rw_landsentered_k01_spots_and_boxes) (n := 63) (k := 6) (x := "_law_script") (sp := fun K => L3.spOf 1 G_k01.c_law K) rfl (by decide) rfl ⟨rfl, by decide, by decide⟩ (fun w h Y => PySem.W.kIn_of Y) ?F (fun K H a ns hl _ hS => G_k01.law_sp G_k01.main K H a ns hl hS)
  case F =>
    intro w mg fa h KX G hmg
    refine' G_k01.all_mk KX G hmg ?a1 ?l1 ?c1 ?k1 ?a2 ?l2 ?c2 ?k2 ?a3 ?l3 ?c3 ?k3 ?a4 ?l4 ?c4 ?k4 ?a5 ?l5 ?c5 ?k5 ?a6 ?l6 ?c6 ?k6 ?a7 ?l7 ?c7 ?k7 ?a8 ?l8 ?c8 ?k8 ?a9 ?l9 ?c9 ?k9 ?a10 ?l10 ?c10 ?k10 ?a11 ?l11 ?c11 ?k11 ?a12 ?l12 ?c12 ?k12 ?a13 ?l13 ?c13 ?k13 ?z_isinstance ?z_int ?z_bool ?z_abs ?z_tuple ?z_len ?z_range ?z_str ?z_min ?z_max ?z_list ?z_repr ?g_TOO_FAR
    (case a1 => k_is)
    (case l1 => k_is)
    (case c1 => k_is)
    (case k1 => k_is)
    (case a2 => k_is)
    (case l2 => k_is)
    (case c2 => k_is)
    (case k2 => k_is)
    (case a3 => k_is)
    (case l3 => k_is)
    (case c3 => k_is)
    (case k3 => k_is)
    (case a4 => k_is)
    (case l4 => k_is)
    (case c4 => k_is)
    (case k4 => k_is)
    (case a5 => k_is)
    (case l5 => k_is)
    (case c5 => k_is)
    (case k5 => k_is)
    (case a6 => k_is)
    (case l6 => k_is)
    (case c6 => k_is)
    (case k6 => k_is)
    (case a7 => k_is)
    (case l7 => k_is)
    (case c7 => k_is)
    (case k7 => k_is)
    (case a8 => k_is)
    (case l8 => k_is)
    (case c8 => k_is)
    (case k8 => k_is)
    (case a9 => k_is)
    (case l9 => k_is)
    (case c9 => k_is)
    (case k9 => k_is)
    (case a10 => k_is)
    (case l10 => k_is)
    (case c10 => k_is)
    (case k10 => k_is)
    (case a11 => k_is)
    (case l11 => k_is)
    (case c11 => k_is)
    (case k11 => k_is)
    (case a12 => k_is)
    (case l12 => k_is)
    (case c12 => k_is)
    (case k12 => k_is)
    (case a13 => k_is)
    (case l13 => k_is)
    (case c13 => k_is)
    (case k13 => k_is)
    (case z_isinstance => k_is)
    (case z_int => k_is)
    (case z_bool => k_is)
    (case z_abs => k_is)
    (case z_tuple => k_is)
    (case z_len => k_is)
    (case z_range => k_is)
    (case z_str => k_is)
    (case z_min => k_is)
    (case z_max => k_is)
    (case z_list => k_is)
    (case z_repr => k_is)
    (case g_TOO_FAR => k_is)
