import PyProof.Rows.All
import Wide.All
import OpenK.AllK
import Wide.FinOn
import HandS.ForMost
import HandS.IsInst
import HandS.Deep
import HandS.Style
import HandS.Wide
import KE.SortData
import PyProof.ReprReads
import HandS.SetBool
import HandS.TupAny
import HandS.Codes
import PyProof.Ascii
import HandS.Small
import KE.KDictDisplayH
import HandS.TryOnly
import HandS.WordsExc
import HandS.CallSlots
import HandS.Zip
import HandS.HeadHook3
import HandS.TupMul
import HandS.SetFor
import HandS.Strs
import HandS.More
import HandS.Flt
import HandS.Conv
import KE.DataMinMax
import HandS.SortKw
import PyProof.EnumMake
import KE.GoesMore
import HandS.NoneIn
import PyProof.NeKinds
import HandS.List
import KE.GoesZip
import KE.GoesEnum
import HandS.Iter
import PyProof.DictStraight
import HandS.DictTup
import KE.DataCmp
import PySem.Challenge.RW_landsentered_k19_which_count_in_order
set_option Elab.async false
set_option linter.all false
set_option maxRecDepth 100000
set_option autoImplicit false
/-! L3A: data held by the tracked heap, slots by ownership, frames. -/
namespace L3
open PySem PySem.Spec PyProof.Rows L2

/-- a dict's key as data -/
def keyD : Key → PyData
  | .inl i => .int i
  | .inr x => .str x

/-- the dict at a has truths alone, as keys and as values -/
def BoolDict (a : Addr) (vs : List (Bool × Bool)) (h : Heap) : Prop := (a == sysModules) = false ∧ ∃ o es ep, h.get? a = some o ∧ o.ExactDict ∧ o.data = .dict es ep ∧
  es.toList.map (fun e => (e.key, e.val)) = vs.map (fun p => (Value.bool p.1, Value.bool p.2)) ∧ (∀ e ∈ es, ∃ b, e.key = .bool b ∧ e.hash = PpSet.hB b) ∧ (vs.map (·.1)).Nodup
def boolO (a : Addr) (vs : List (Bool × Bool)) : HO := .ext (BoolDict a vs)
def truD (vs : List (Bool × Bool)) : List (PyData × PyData) := vs.map fun p => (.bool p.1, .bool p.2)
/-- a dict of numbers and texts, perhaps locked while a loop walks it (an empty one is never locked for long) -/
def RdK (F : Hp) (a : Addr) (ks : List (Key × V)) : Prop := F a = some (.dK ks) ∨ (ks ≠ [] ∧ ∃ o, F a = some (.frz o (.dK ks)))
mutual
/-- v stands for the datum d, within F -/
inductive Rp (K : PySem.W.Frag) (F : Hp) : V → PyData → Prop
  | non : Rp K F .non .none
  | bl (b : Bool) : Rp K F (.bl b) (.bool b)
  | int (i : Int) : Rp K F (.int i) (.int i)
  | str (x : Str) : Rp K F (.str x) (.str x)
  | lst {a : Addr} {xs : List V} {ds : List PyData} : SqL K F a xs → RpAll K F xs ds → Rp K F (.ref a) (.list ds)
  | tup {a : Addr} {xs : List V} {ds : List PyData} : F a = some (.tup xs) → RpAll K F xs ds → Rp K F (.ref a) (.tuple ds)
  | dK {a : Addr} {kvs : List (Key × V)} {ds : List PyData} : RdK F a kvs → RpAll K F (kvs.map (·.2)) ds → Rp K F (.ref a) (.dict ((kvs.map fun p => keyD p.1).zip ds))
  | dT {a : Addr} {kvs : List (List Key × V)} {ds : List PyData} : Rd F a (.dT kvs) → kvs ≠ [] → RpAll K F (kvs.map (·.2)) ds → Rp K F (.ref a) (.dict ((kvs.map fun p => PyData.tuple (p.1.map keyD)).zip ds))
  | dB {a : Addr} {vs : List (Bool × Bool)} : F a = some (boolO a vs) → vs ≠ [] → Rp K F (.ref a) (.dict (truD vs))
inductive RpAll (K : PySem.W.Frag) (F : Hp) : List V → List PyData → Prop
  | nil : RpAll K F [] []
  | cons {v : V} {vs : List V} {d : PyData} {ds : List PyData} : Rp K F v d → RpAll K F vs ds → RpAll K F (v :: vs) (d :: ds)
end

theorem sqt_mono {K : PySem.W.Frag} {F F' : Hp} {a : Addr} {xs : List V} (e : Same F F') (h : SqT K F a xs) : SqT K F' a xs := by
  rcases h with (h | ⟨o, h⟩) | h
  · exact .inl (.inl (e _ _ h))
  · exact .inl (.inr ⟨o, e _ _ h⟩)
  · exact .inr h
theorem rdk_mono {F F' : Hp} {a : Addr} {ks : List (Key × V)} (e : Same F F') (h : RdK F a ks) : RdK F' a ks := by
  rcases h with h | ⟨n, o, h⟩
  · exact .inl (e _ _ h)
  · exact .inr ⟨n, o, e _ _ h⟩
theorem RdK.rd {F : Hp} {a : Addr} {ks : List (Key × V)} (h : RdK F a ks) : Rd F a (.dK ks) := by
  rcases h with h | ⟨_, o, h⟩
  · exact .inl h
  · exact .inr ⟨o, h⟩
theorem RdK.nil {F : Hp} {a : Addr} (h : RdK F a []) : F a = some (.dK []) := by
  rcases h with h | ⟨n, _⟩
  · exact h
  · exact (n rfl).elim
theorem rd_mono {F F' : Hp} {a : Addr} {u : HO} (e : Same F F') (h : Rd F a u) : Rd F' a u := by
  rcases h with h | ⟨o, h⟩
  · exact .inl (e _ _ h)
  · exact .inr ⟨o, e _ _ h⟩
theorem sql_mono {K : PySem.W.Frag} {F F' : Hp} {a : Addr} {xs : List V} (e : Same F F') (h : SqL K F a xs) : SqL K F' a xs := e.seq h

section
variable {K : PySem.W.Frag} {F F' : Hp}
mutual
theorem Rp.mono (e : Same F F') : ∀ {d : PyData} {v : V}, Rp K F v d → Rp K F' v d
  | _, _, .non => .non
  | _, _, .bl b => .bl b
  | _, _, .int i => .int i
  | _, _, .str x => .str x
  | _, _, .lst h t => .lst (sql_mono e h) (RpAll.mono e t)
  | _, _, .tup h t => .tup (e _ _ h) (RpAll.mono e t)
  | _, _, .dK h t => .dK (rdk_mono e h) (RpAll.mono e t)
  | _, _, .dT h n t => .dT (rd_mono e h) n (RpAll.mono e t)
  | _, _, .dB h n => .dB (e _ _ h) n
theorem RpAll.mono (e : Same F F') : ∀ {ds : List PyData} {vs : List V}, RpAll K F vs ds → RpAll K F' vs ds
  | _, _, .nil => .nil
  | _, _, .cons h t => .cons (Rp.mono e h) (RpAll.mono e t)
end

theorem RpAll.length : ∀ {vs : List V} {ds : List PyData}, RpAll K F vs ds → vs.length = ds.length
  | _, _, .nil => rfl
  | _, _, .cons _ t => congrArg (· + 1) t.length
theorem RpAll.append : ∀ {vs ws : List V} {ds es : List PyData}, RpAll K F vs ds → RpAll K F ws es → RpAll K F (vs ++ ws) (ds ++ es)
  | _, _, _, _, .nil, h => h
  | _, _, _, _, .cons h t, h' => .cons h (t.append h')
theorem RpAll.get : ∀ {vs : List V} {ds : List PyData} {i : Nat} {d : PyData}, RpAll K F vs ds → ds[i]? = some d → ∃ v, vs[i]? = some v ∧ Rp K F v d
  | _, _, _, _, .nil, e => by simp at e
  | _, _, 0, _, .cons h _, e => by simp at e; subst e; exact ⟨_, rfl, h⟩
  | _, _, i + 1, _, .cons _ t, e => by
    obtain ⟨v, h1, h2⟩ := t.get (i := i) (by simpa using e)
    exact ⟨v, by simpa using h1, h2⟩
theorem RpAll.getV : ∀ {vs : List V} {ds : List PyData} {i : Nat} {v : V}, RpAll K F vs ds → vs[i]? = some v → ∃ d, ds[i]? = some d ∧ Rp K F v d
  | _, _, _, _, .nil, e => by simp at e
  | _, _, 0, _, .cons h _, e => by simp at e; subst e; exact ⟨_, rfl, h⟩
  | _, _, i + 1, _, .cons _ t, e => by
    obtain ⟨v, h1, h2⟩ := t.getV (i := i) (by simpa using e)
    exact ⟨v, by simpa using h1, h2⟩
theorem RpAll.take : ∀ {vs : List V} {ds : List PyData} (n : Nat), RpAll K F vs ds → RpAll K F (vs.take n) (ds.take n)
  | _, _, 0, _ => .nil
  | _, _, _ + 1, .nil => .nil
  | _, _, n + 1, .cons h t => .cons h (t.take n)
theorem RpAll.drop : ∀ {vs : List V} {ds : List PyData} (n : Nat), RpAll K F vs ds → RpAll K F (vs.drop n) (ds.drop n)
  | _, _, 0, h => h
  | _, _, _ + 1, .nil => .nil
  | _, _, n + 1, .cons _ t => t.drop n
theorem RpAll.set : ∀ {vs : List V} {ds : List PyData} (n : Nat) {v : V} {d : PyData}, RpAll K F vs ds → Rp K F v d → RpAll K F (vs.set n v) (ds.set n d)
  | _, _, _, _, _, .nil, _ => .nil
  | _, _, 0, _, _, .cons _ t, q => .cons q t
  | _, _, n + 1, _, _, .cons h t, q => .cons h (t.set n q)
theorem RpAll.reverse : ∀ {vs : List V} {ds : List PyData}, RpAll K F vs ds → RpAll K F vs.reverse ds.reverse
  | _, _, .nil => .nil
  | _, _, .cons h t => by
    rw [List.reverse_cons, List.reverse_cons]
    exact (t.reverse).append (.cons h .nil)
theorem RpAll.eraseIdx : ∀ {vs : List V} {ds : List PyData} (n : Nat), RpAll K F vs ds → RpAll K F (vs.eraseIdx n) (ds.eraseIdx n)
  | _, _, _, .nil => .nil
  | _, _, 0, .cons _ t => t
  | _, _, n + 1, .cons h t => .cons h (t.eraseIdx n)
end

/-! ### what owned things hold -/
/-- an owned root at a: its content lies within F -/
def OwnC (K : PySem.W.Frag) (F H : Hp) (a : Addr) : PyData → Prop
  | .list ds => ∃ xs, H a = some (.lst xs) ∧ RpAll K F xs ds
  | .dict kvs => (∃ (ks : List (Key × V)) (ds : List PyData), H a = some (.dK ks) ∧ RpAll K F (ks.map (·.2)) ds ∧ kvs = (ks.map fun p => keyD p.1).zip ds) ∨
      (∃ (ks : List (List Key × V)) (ds : List PyData), H a = some (.dT ks) ∧ RpAll K F (ks.map (·.2)) ds ∧ ks ≠ [] ∧ kvs = (ks.map fun p => PyData.tuple (p.1.map keyD)).zip ds) ∨
      ∃ vs : List (Bool × Bool), H a = some (boolO a vs) ∧ vs ≠ [] ∧ kvs = truD vs
  | _ => False
theorem OwnC.there {K : PySem.W.Frag} {F H : Hp} {a : Addr} {d : PyData} (h : OwnC K F H a d) : ∃ o, H a = some o := by
  cases d with
  | list ds => obtain ⟨xs, e, _⟩ := h; exact ⟨_, e⟩
  | dict kvs =>
    rcases h with ⟨_, _, e, _⟩ | ⟨_, _, e, _⟩ | ⟨_, e, _⟩
    · exact ⟨_, e⟩
    · exact ⟨_, e⟩
    · exact ⟨_, e⟩
  | _ => exact h.elim
theorem OwnC.keep {K : PySem.W.Frag} {F H F' H' : Hp} {a : Addr} {d : PyData} (h : OwnC K F H a d) (e : Same F F') (k : ∀ o, H a = some o → H' a = some o) : OwnC K F' H' a d := by
  cases d with
  | list ds => obtain ⟨xs, q, r⟩ := h; exact ⟨xs, k _ q, r.mono e⟩
  | dict kvs =>
    rcases h with ⟨ks, ds, q, r, z⟩ | ⟨ks, ds, q, r, n, z⟩ | ⟨vs, q, n, z⟩
    · exact .inl ⟨ks, ds, k _ q, r.mono e, z⟩
    · exact .inr (.inl ⟨ks, ds, k _ q, r.mono e, n, z⟩)
    · exact .inr (.inr ⟨vs, k _ q, n, z⟩)
  | _ => exact h.elim
/-- the root belongs to H, what is within to F -/
theorem OwnC.rp {K : PySem.W.Frag} {F H : Hp} {a : Addr} {d : PyData} (h : OwnC K F H a d) (e : Same F H) : Rp K H (.ref a) d := by
  cases d with
  | list ds => obtain ⟨xs, q, r⟩ := h; exact .lst (SqL.of q) (r.mono e)
  | dict kvs =>
    rcases h with ⟨ks, ds, q, r, z⟩ | ⟨ks, ds, q, r, n, z⟩ | ⟨vs, q, n, z⟩
    · subst z; exact .dK (.inl q) (r.mono e)
    · subst z; exact .dT (.inl q) n (r.mono e)
    · subst z; exact .dB q n
  | _ => exact h.elim

/-- v stands for d: its root in H, what is within in F -/
def Rk (K : PySem.W.Frag) (F H : Hp) (v : V) (d : PyData) : Prop := Rp K F v d ∨ ∃ a, v = .ref a ∧ OwnC K F H a d
theorem Rk.rp {K : PySem.W.Frag} {F H : Hp} {v : V} {d : PyData} (h : Rk K F H v d) (e : Same F H) : Rp K H v d := by
  rcases h with h | ⟨a, rfl, h⟩
  · exact h.mono e
  · exact h.rp e
theorem Rk.lst {K : PySem.W.Frag} {F H : Hp} {v : V} {ds : List PyData} (h : Rk K F H v (.list ds)) (e : Same F H) : ∃ a xs, v = .ref a ∧ SqL K H a xs ∧ RpAll K F xs ds := by
  rcases h with h | ⟨a, rfl, xs, q, r⟩
  · cases h with
    | lst q r => exact ⟨_, _, rfl, sql_mono e q, r⟩
  · exact ⟨a, xs, rfl, SqL.of q, r⟩
theorem Rk.tup {K : PySem.W.Frag} {F H : Hp} {v : V} {ds : List PyData} (h : Rk K F H v (.tuple ds)) (e : Same F H) : ∃ a xs, v = .ref a ∧ SqT K H a xs ∧ RpAll K F xs ds := by
  rcases h with h | ⟨a, rfl, q⟩
  · cases h with
    | tup q r => exact ⟨_, _, rfl, SqT.of (e _ _ q), r⟩
  · exact q.elim
theorem Rk.int {K : PySem.W.Frag} {F H : Hp} {v : V} {i : Int} (h : Rk K F H v (.int i)) : v = .int i := by
  rcases h with h | ⟨a, rfl, q⟩
  · cases h; rfl
  · exact q.elim
theorem Rk.bl {K : PySem.W.Frag} {F H : Hp} {v : V} {i : Bool} (h : Rk K F H v (.bool i)) : v = .bl i := by
  rcases h with h | ⟨a, rfl, q⟩
  · cases h; rfl
  · exact q.elim
theorem Rk.str {K : PySem.W.Frag} {F H : Hp} {v : V} {i : Str} (h : Rk K F H v (.str i)) : v = .str i := by
  rcases h with h | ⟨a, rfl, q⟩
  · cases h; rfl
  · exact q.elim
theorem Rk.non {K : PySem.W.Frag} {F H : Hp} {v : V} (h : Rk K F H v .none) : v = .non := by
  rcases h with h | ⟨a, rfl, q⟩
  · cases h; rfl
  · exact q.elim

/-! ### slots -/
inductive SV where
  | unb
  /-- frozen data -/
  | fz (d : PyData)
  /-- an owned list or dict -/
  | own (d : PyData)
  /-- a caller's owned one, handed in: the slot stays bound to it -/
  | ref (d : PyData)
  /-- .. that was frozen -/
  | rfz (d : PyData)
abbrev MEnv := List SV
def SV.isOwn : SV → Option PyData
  | .own d => some d
  | .ref d => some d
  | _ => none
def SV.lock : SV → Bool
  | .ref _ => true
  | .rfz _ => true
  | _ => false
/-- what a slot shows -/
def SV.view : SV → Option PyData
  | .unb => none
  | .fz d => some d
  | .own d => some d
  | .ref d => some d
  | .rfz d => some d
/-- .. frozen -/
def SV.freeze : SV → SV
  | .own d => .fz d
  | .ref d => .rfz d
  | x => x
/-- .. with other content -/
def SV.put (d : PyData) : SV → SV
  | .own _ => .own d
  | .ref _ => .ref d
  | x => x
def SV.ok (K : PySem.W.Frag) (F H : Hp) (x : Option (Option V)) : SV → Prop
  | .unb => True
  | .fz d => ∃ v, x = some (some v) ∧ Rp K F v d
  | .rfz d => ∃ v, x = some (some v) ∧ Rp K F v d
  | .own d => ∃ a, x = some (some (.ref a)) ∧ F a = none ∧ OwnC K F H a d
  | .ref d => ∃ a, x = some (some (.ref a)) ∧ F a = none ∧ OwnC K F H a d
/-- the slot i owns the root at a -/
def OwnsAt (σ : L2.St) (env : MEnv) (i : Nat) (a : Addr) : Prop := ∃ x d, env[i]? = some x ∧ x.isOwn = some d ∧ σ[i]? = some (some (.ref a))
def Owns (σ : L2.St) (env : MEnv) (a : Addr) : Prop := ∃ i, OwnsAt σ env i a
/-- a slot of the def's own does -/
def OwnsU (σ : L2.St) (env : MEnv) (a : Addr) : Prop := ∃ (i : Nat) (d : PyData), env[i]? = some (.own d) ∧ σ[i]? = some (some (.ref a))

structure Abs (K : PySem.W.Frag) (F H : Hp) (σ : L2.St) (env : MEnv) : Prop where
  same : Same F H
  len : σ.length = env.length
  slot : ∀ (i : Nat) (x : SV), env[i]? = some x → x.ok K F H (σ[i]?)
  inj : ∀ (i j : Nat) (a : Addr), OwnsAt σ env i a → OwnsAt σ env j a → i = j
theorem Abs.own {K : PySem.W.Frag} {F H : Hp} {σ : L2.St} {env : MEnv} (A : Abs K F H σ env) {i : Nat} {a : Addr} {x : SV} {d : PyData} (e : env[i]? = some x) (o : x.isOwn = some d) :
    ∃ a, σ[i]? = some (some (.ref a)) ∧ F a = none ∧ OwnC K F H a d := by
  have h := A.slot i x e
  cases x with
  | own d' => cases o; exact h
  | ref d' => cases o; exact h
  | _ => cases o
theorem Abs.ownsF {K : PySem.W.Frag} {F H : Hp} {σ : L2.St} {env : MEnv} (A : Abs K F H σ env) {a : Addr} (h : Owns σ env a) : F a = none ∧ ∃ o, H a = some o := by
  obtain ⟨i, x, d, e, o, q⟩ := h
  obtain ⟨b, e1, e2, e3⟩ := A.own (a := a) e o
  rw [q] at e1
  cases e1
  exact ⟨e2, e3.there⟩
/-- a slot's view -/
theorem Abs.view {K : PySem.W.Frag} {F H : Hp} {σ : L2.St} {env : MEnv} (A : Abs K F H σ env) {i : Nat} {x : SV} {d : PyData} (e : env[i]? = some x) (o : x.view = some d) :
    ∃ v, σ[i]? = some (some v) ∧ Rk K F H v d := by
  have h := A.slot i x e
  cases x with
  | unb => cases o
  | fz d' => cases o; obtain ⟨v, q, r⟩ := h; exact ⟨v, q, .inl r⟩
  | rfz d' => cases o; obtain ⟨v, q, r⟩ := h; exact ⟨v, q, .inl r⟩
  | own d' => cases o; obtain ⟨a, q, _, r⟩ := h; exact ⟨.ref a, q, .inr ⟨a, rfl, r⟩⟩
  | ref d' => cases o; obtain ⟨a, q, _, r⟩ := h; exact ⟨.ref a, q, .inr ⟨a, rfl, r⟩⟩

/-- nothing that changes stands at a -/
def Lo (H : Hp) (a : Addr) : Prop := ∀ o, H a = some o → ∃ xs, o = .tup xs
theorem Lo.none {H : Hp} {a : Addr} (h : H a = none) : Lo H a := fun o e => by rw [h] at e; cases e
theorem Lo.tup {H : Hp} {a : Addr} {xs : List V} (h : H a = some (.tup xs)) : Lo H a := fun o e => by rw [h] at e; cases e; exact ⟨xs, rfl⟩
theorem Lo.lst {H : Hp} {a : Addr} {xs : List V} (z : Lo H a) (h : H a = some (.lst xs)) : False := by obtain ⟨_, e⟩ := z _ h; cases e
theorem Lo.dK {H : Hp} {a : Addr} {xs : List (Key × V)} (z : Lo H a) (h : H a = some (.dK xs)) : False := by obtain ⟨_, e⟩ := z _ h; cases e
theorem Lo.dT {H : Hp} {a : Addr} {xs : List (List Key × V)} (z : Lo H a) (h : H a = some (.dT xs)) : False := by obtain ⟨_, e⟩ := z _ h; cases e
theorem Lo.bool {H : Hp} {a : Addr} {vs : List (Bool × Bool)} (z : Lo H a) (h : H a = some (boolO a vs)) : False := by obtain ⟨_, e⟩ := z _ h; cases e
theorem OwnC.lo {K : PySem.W.Frag} {F H : Hp} {a : Addr} {d : PyData} (h : OwnC K F H a d) (z : Lo H a) : False := by
  cases d with
  | list ds => obtain ⟨xs, e, _⟩ := h; exact z.lst e
  | dict kvs =>
    rcases h with ⟨_, _, e, _⟩ | ⟨_, _, e, _⟩ | ⟨_, e, _⟩
    · exact z.dK e
    · exact z.dT e
    · exact z.bool e
  | _ => exact h.elim
/-- from one state to a later one: what was frozen stays, what was tracked and not owned stays -/
structure Frm (F H : Hp) (σ : L2.St) (env : MEnv) (F' H' : Hp) (σ' : L2.St) (env' : MEnv) : Prop where
  sameF : Same F F'
  keep : ∀ a o, H a = some o → ¬ Owns σ env a → H' a = some o
  there : ∀ a o, H a = some o → ∃ o', H' a = some o'
  new : ∀ a o, F' a = some o → F a = some o ∨ Lo H a ∨ Owns σ env a
  own : ∀ a, Owns σ' env' a → Owns σ env a ∨ H a = none
  ownU : ∀ a, OwnsU σ' env' a → OwnsU σ env a ∨ H a = none
  lock : ∀ (i : Nat) (x : SV), env[i]? = some x → x.lock = true → σ'[i]? = σ[i]? ∧ ∃ x', env'[i]? = some x' ∧ x'.lock = true
  len : env'.length = env.length
section
variable {K : PySem.W.Frag} {F H F1 H1 F2 H2 : Hp} {σ σ1 σ2 : L2.St} {env env1 env2 : MEnv}
theorem Frm.refl (F H : Hp) (σ : L2.St) (env : MEnv) : Frm F H σ env F H σ env :=
  ⟨Same.refl _, fun _ _ h _ => h, fun _ o h => ⟨o, h⟩, fun _ _ h => .inl h, fun _ h => .inl h, fun _ h => .inl h, fun i x e l => ⟨rfl, x, e, l⟩, rfl⟩
theorem Frm.trans (p : Frm F H σ env F1 H1 σ1 env1) (q : Frm F1 H1 σ1 env1 F2 H2 σ2 env2) : Frm F H σ env F2 H2 σ2 env2 where
  sameF := p.sameF.trans q.sameF
  keep := fun a o h n => by
    refine q.keep a o (p.keep a o h n) fun z => ?_
    rcases p.own a z with z | z
    · exact n z
    · rw [h] at z; cases z
  there := fun a o h => by
    obtain ⟨o1, h1⟩ := p.there a o h
    exact q.there a o1 h1
  new := fun a o h => by
    rcases q.new a o h with z | z | z
    · exact p.new a o z
    · by_cases ow : Owns σ env a
      · exact .inr (.inr ow)
      · exact .inr (.inl fun u e => z u (p.keep a u e ow))
    · rcases p.own a z with z | z
      · exact .inr (.inr z)
      · exact .inr (.inl (Lo.none z))
  own := fun a h => by
    rcases q.own a h with z | z
    · exact p.own a z
    · refine .inr ?_
      cases e : H a with
      | none => rfl
      | some u =>
        obtain ⟨o1, h1⟩ := p.there a u e
        rw [z] at h1; cases h1
  ownU := fun a h => by
    rcases q.ownU a h with z | z
    · exact p.ownU a z
    · refine .inr ?_
      cases e : H a with
      | none => rfl
      | some u =>
        obtain ⟨o1, h1⟩ := p.there a u e
        rw [z] at h1; cases h1
  lock := fun i x e l => by
    obtain ⟨e1, x1, q1, l1⟩ := p.lock i x e l
    obtain ⟨e2, x2, q2, l2⟩ := q.lock i x1 q1 l1
    exact ⟨e2.trans e1, x2, q2, l2⟩
  len := q.len.trans p.len
end

/-! ### results -/
inductive RV where
  | fz (d : PyData)
  | own (d : PyData)
  /-- what the i-th slot is bound to -/
  | plc (i : Nat)
def RV.view (env : MEnv) : RV → Option PyData
  | .fz d => some d
  | .own d => some d
  | .plc i => (env[i]?).bind SV.view
def RV.ok (K : PySem.W.Frag) (F H : Hp) (σ : L2.St) (env : MEnv) (v : V) : RV → Prop
  | .fz d => Rp K F v d
  | .own d => ∃ a, v = .ref a ∧ F a = none ∧ OwnC K F H a d ∧ ¬ Owns σ env a
  | .plc i => σ[i]? = some (some v)
/-- what is owned is new -/
def RV.isNew (H : Hp) (v : V) : RV → Prop
  | .own _ => ∃ a, v = .ref a ∧ H a = none
  | _ => True
section
variable {K : PySem.W.Frag} {F H F1 H1 : Hp} {σ : L2.St} {env env1 : MEnv} {v : V} {r : RV}
theorem RV.ok.keep (h : r.ok K F H σ env v) (f : Frm F H σ env F1 H1 σ env1) : r.ok K F1 H1 σ env1 v := by
  cases r with
  | fz d => exact Rp.mono f.sameF h
  | own d =>
    obtain ⟨a, e, e1, e2, e3⟩ := h
    obtain ⟨o, ho⟩ := e2.there
    refine ⟨a, e, ?_, e2.keep f.sameF fun o h => f.keep a o h e3, fun z => ?_⟩
    · cases q : F1 a with
      | none => rfl
      | some u =>
        rcases f.new a u q with z | z | z
        · rw [e1] at z; cases z
        · exact (e2.lo z).elim
        · exact (e3 z).elim
    · rcases f.own a z with z | z
      · exact e3 z
      · rw [ho] at z; cases z
  | plc i => exact h
theorem RV.isNew.back (h : r.isNew H1 v) (f : Frm F H σ env F1 H1 σ env1) : r.isNew H v := by
  cases r with
  | fz d => trivial
  | plc i => trivial
  | own d =>
    obtain ⟨a, e, n⟩ := h
    refine ⟨a, e, ?_⟩
    cases q : H a with
    | none => rfl
    | some u =>
      obtain ⟨o, h1⟩ := f.there a u q
      rw [n] at h1; cases h1
theorem RV.ok.rk (h : r.ok K F H σ env v) (A : Abs K F H σ env) {d : PyData} (e : r.view env = some d) : Rk K F H v d := by
  cases r with
  | fz d' => cases e; exact .inl h
  | own d' => cases e; obtain ⟨a, e0, _, e2, _⟩ := h; exact .inr ⟨a, e0, e2⟩
  | plc i =>
    have e' : (env[i]?).bind SV.view = some d := e
    cases q : env[i]? with
    | none => rw [q] at e'; cases e'
    | some x =>
      rw [q] at e'
      obtain ⟨u, e1, e2⟩ := A.view q e'
      have h' : σ[i]? = some (some v) := h
      rw [h'] at e1
      cases e1
      exact e2
end
end L3

/-! L3B: expressions over slots of data: what they give, and that the text has it. -/
namespace L3
open PySem PySem.Spec PyProof.Rows L2

abbrev ME := MEnv → Option (MEnv × RV)
abbrev MA := MEnv → Option (MEnv × List RV)
abbrev MT := MEnv → Option (MEnv × Bool)

/-! ### readings -/
def tE (K : PySem.W.Frag) (m : ME) : TE := fun σ H Q => ∃ F env, Abs K F H σ env ∧ ∃ env' r, m env = some (env', r) ∧
  ∀ v F' H', Abs K F' H' σ env' → Frm F H σ env F' H' σ env' → r.ok K F' H' σ env' v → r.isNew H v → Q v H'
def tT (K : PySem.W.Frag) (m : MT) : TT := fun σ H Q => ∃ F env, Abs K F H σ env ∧ ∃ env' b, m env = some (env', b) ∧
  ∀ F' H', Abs K F' H' σ env' → Frm F H σ env F' H' σ env' → Q b H'
/-- the owned ones among some values -/
def ownVs : List V → List RV → List V
  | v :: vs, .own _ :: rs => v :: ownVs vs rs
  | _ :: vs, _ :: rs => ownVs vs rs
  | _, _ => []
def rvsOk (K : PySem.W.Frag) (F H : Hp) (σ : L2.St) (env : MEnv) : List V → List RV → Prop
  | [], [] => True
  | v :: vs, r :: rs => r.ok K F H σ env v ∧ rvsOk K F H σ env vs rs ∧ ((∃ d, r = .own d) → v ∉ ownVs vs rs)
  | _, _ => False
def rvsNew (H : Hp) (vs : List V) (rs : List RV) : Prop := ∀ v ∈ ownVs vs rs, ∃ a, v = .ref a ∧ H a = none
def tAs (K : PySem.W.Frag) (m : MA) : TA := fun σ H Q => ∃ F env, Abs K F H σ env ∧ ∃ env' rs, m env = some (env', rs) ∧
  ∀ vs F' H', Abs K F' H' σ env' → Frm F H σ env F' H' σ env' → rvsOk K F' H' σ env' vs rs → rvsNew H vs rs → Q vs H'

theorem pe_imp {X : Cx} {e : Expr} {t t' : TE} (h : PE X e t) (i : ∀ σ H Q, t' σ H Q → t σ H Q) : PE X e t' := ⟨fun pins s σ H Q I q => h.run pins s σ H Q I (i σ H Q q)⟩
theorem pt_imp {X : Cx} {e : Expr} {t t' : TT} (h : PT X e t) (i : ∀ σ H Q, t' σ H Q → t σ H Q) : PT X e t' := ⟨fun pins s σ H Q I q => h.run pins s σ H Q I (i σ H Q q)⟩
theorem pa_imp {X : Cx} {es : List Expr} {t t' : TA} (h : PA X es t) (i : ∀ σ H Q, t' σ H Q → t σ H Q) : PA X es t' := ⟨fun pos pins s σ H Q I q => h.run pos pins s σ H Q I (i σ H Q q)⟩

section
variable {K : PySem.W.Frag} {F H F1 H1 F' H' : Hp} {σ : L2.St} {env env1 : MEnv}
theorem rvsOk.length : ∀ {vs : List V} {rs : List RV}, rvsOk K F H σ env vs rs → vs.length = rs.length
  | [], [], _ => rfl
  | _ :: _, _ :: _, h => congrArg (· + 1) (rvsOk.length h.2.1)
  | [], _ :: _, h => h.elim
  | _ :: _, [], h => h.elim
theorem rvsOk.keep (f : Frm F H σ env F1 H1 σ env1) : ∀ {vs : List V} {rs : List RV}, rvsOk K F H σ env vs rs → rvsOk K F1 H1 σ env1 vs rs
  | [], [], _ => trivial
  | _ :: _, _ :: _, h => ⟨RV.ok.keep h.1 f, rvsOk.keep f h.2.1, h.2.2⟩
  | [], _ :: _, h => h.elim
  | _ :: _, [], h => h.elim
theorem rvsNew.back {vs : List V} {rs : List RV} (h : rvsNew H1 vs rs) (f : Frm F H σ env F1 H1 σ env1) : rvsNew H vs rs := fun v hv => by
  obtain ⟨a, e, n⟩ := h v hv
  refine ⟨a, e, ?_⟩
  cases q : H a with
  | none => rfl
  | some u =>
    obtain ⟨o, h1⟩ := f.there a u q
    rw [n] at h1; cases h1
/-- new things are laid, nothing else changes -/
theorem grow (A : Abs K F H σ env) (sF : Same F F') (sH : Same H H') (s' : Same F' H') (nw : ∀ a o, F' a = some o → F a = some o ∨ Lo H a) :
    Abs K F' H' σ env ∧ Frm F H σ env F' H' σ env := by
  have free : ∀ a d, F a = none → OwnC K F H a d → F' a = none := fun a d e ho => by
    cases q : F' a with
    | none => rfl
    | some u =>
      rcases nw a u q with z | z
      · rw [e] at z; cases z
      · exact (ho.lo z).elim
  refine ⟨⟨s', A.len, fun i x e => ?_, A.inj⟩, ⟨sF, fun a o h _ => sH a o h, fun a o h => ⟨o, sH a o h⟩, fun a o h => (nw a o h).elim .inl fun z => .inr (.inl z), fun a h => .inl h, fun a h => .inl h, fun i x e l => ⟨rfl, x, e, l⟩, rfl⟩⟩
  have h := A.slot i x e
  cases x with
  | unb => trivial
  | fz d => obtain ⟨v, q, r⟩ := h; exact ⟨v, q, r.mono sF⟩
  | rfz d => obtain ⟨v, q, r⟩ := h; exact ⟨v, q, r.mono sF⟩
  | own d => obtain ⟨a, q, f, r⟩ := h; exact ⟨a, q, free a d f r, r.keep sF fun o z => sH a o z⟩
  | ref d => obtain ⟨a, q, f, r⟩ := h; exact ⟨a, q, free a d f r, r.keep sF fun o z => sH a o z⟩
end

/-- an operation gives r (it may lay new things) -/
def Gives (K : PySem.W.Frag) (F H : Hp) (Q : VK) (r : RV) : Prop :=
  ∀ v F' H', Same F F' → Same H H' → Same F' H' → (∀ a o, F' a = some o → F a = some o ∨ Lo H a) →
    (match r with
      | .fz d => Rp K F' v d
      | .own d => ∃ a, v = .ref a ∧ H a = none ∧ F' a = none ∧ OwnC K F' H' a d
      | .plc _ => False) → Q v H'
theorem Gives.flat {K : PySem.W.Frag} {F H : Hp} {Q : VK} {d : PyData} {v : V} (e : Same F H) (g : Gives K F H Q (.fz d)) (h : Rp K F v d) : Q v H :=
  g v F H (Same.refl _) (Same.refl _) e (fun _ _ h => .inl h) h
theorem Gives.newList {K : PySem.W.Frag} {F H : Hp} {Q : VK} {ds : List PyData} {xs : List V} {p : Addr} (e : Same F H) (g : Gives K F H Q (.own (.list ds))) (h : RpAll K F xs ds) (hp : H p = none) : Q (.ref p) (upd H p (.lst xs)) := by
  have sH : Same H (upd H p (.lst xs)) := fun b o q => by rw [upd_ne (ne_of_none q hp)]; exact q
  exact g (.ref p) F _ (Same.refl _) sH (e.trans sH) (fun _ _ h => .inl h) ⟨p, rfl, hp, e.free hp, xs, upd_same, h⟩
theorem Gives.newTup {K : PySem.W.Frag} {F H : Hp} {Q : VK} {ds : List PyData} {xs : List V} {p : Addr} (e : Same F H) (g : Gives K F H Q (.fz (.tuple ds))) (h : RpAll K F xs ds) (hp : H p = none) : Q (.ref p) (upd H p (.tup xs)) := by
  have sH : Same H (upd H p (.tup xs)) := fun b o q => by rw [upd_ne (ne_of_none q hp)]; exact q
  have sF : Same F (upd F p (.tup xs)) := fun b o q => by rw [upd_ne (ne_of_none q (e.free hp))]; exact q
  refine g (.ref p) (upd F p (.tup xs)) _ sF sH (fun b o q => ?_) (fun b o q => ?_) (.tup upd_same (h.mono sF))
  · by_cases hb : b = p
    · subst hb; rw [upd_same] at q ⊢; exact q
    · rw [upd_ne hb] at q; exact sH b o (e b o q)
  · by_cases hb : b = p
    · subst hb; exact .inr (Lo.none hp)
    · rw [upd_ne hb] at q; exact .inl q
/-- from a state: the continuation of a reading takes what is given -/
theorem gives_to {K : PySem.W.Frag} {F0 H0 F H : Hp} {σ : L2.St} {env0 env : MEnv} {Q : VK} {r : RV} (A : Abs K F H σ env) (f : Frm F0 H0 σ env0 F H σ env)
    (k : ∀ v F' H', Abs K F' H' σ env → Frm F0 H0 σ env0 F' H' σ env → r.ok K F' H' σ env v → r.isNew H0 v → Q v H') : Gives K F H Q r := by
  intro v F' H' sF sH s' nw res
  obtain ⟨A', f'⟩ := grow A sF sH s' nw
  cases r with
  | fz d => exact k v F' H' A' (f.trans f') res trivial
  | own d =>
    obtain ⟨a, e, ha, fa, oc⟩ := res
    have hn : ¬ Owns σ env a := fun z => by
      obtain ⟨_, o, ho⟩ := A.ownsF z
      rw [ha] at ho; cases ho
    refine k v F' H' A' (f.trans f') ⟨a, e, fa, oc, hn⟩ ⟨a, e, ?_⟩
    cases q : H0 a with
    | none => rfl
    | some u =>
      obtain ⟨o, h1⟩ := f.there a u q
      rw [ha] at h1; cases h1
  | plc i => exact res.elim

/-! ### names, constants -/
def eSlot (i : Nat) : ME := fun env => match env[i]? with
  | some (.fz d) => some (env, .fz d)
  | some (.rfz d) => some (env, .fz d)
  | some (.own _) => some (env, .plc i)
  | some (.ref _) => some (env, .plc i)
  | _ => none
def eLit (d : PyData) : ME := fun env => some (env, .fz d)
section
variable {X : Cx}
theorem re_slot {i : Nat} {e : Expr} (h : PE X e (tVar i)) : PE X e (tE X.K (eSlot i)) := by
  refine pe_imp h fun σ H Q ⟨F, env, A, env', r, em, k⟩ => ?_
  unfold eSlot at em
  have fin : ∀ x d, env[i]? = some x → x.view = some d → env' = env → (∀ v, σ[i]? = some (some v) → Rk X.K F H v d → r.ok X.K F H σ env v ∧ r.isNew H v) → tVar i σ H Q := fun x d e o ee kk => by
    obtain ⟨v, e1, e2⟩ := A.view e o
    obtain ⟨k1, k2⟩ := kk v e1 e2
    subst ee
    exact ⟨v, e1, k v F H A (Frm.refl _ _ _ _) k1 k2⟩
  split at em
  · rename_i d e
    cases em
    refine fin (.fz d) d e rfl rfl fun v e1 _ => ?_
    obtain ⟨u, q, r⟩ := A.slot i _ e
    rw [e1] at q; cases q
    exact ⟨r, trivial⟩
  · rename_i d e
    cases em
    refine fin (.rfz d) d e rfl rfl fun v e1 _ => ?_
    obtain ⟨u, q, r⟩ := A.slot i _ e
    rw [e1] at q; cases q
    exact ⟨r, trivial⟩
  · rename_i d e
    cases em
    exact fin (.own d) d e rfl rfl fun v e1 _ => ⟨e1, trivial⟩
  · rename_i d e
    cases em
    exact fin (.ref d) d e rfl rfl fun v e1 _ => ⟨e1, trivial⟩
  · cases em
theorem re_lit {e : Expr} {v : V} {d : PyData} (h : PE X e (tC v)) (r : ∀ F, Rp X.K F v d) : PE X e (tE X.K (eLit d)) := by
  refine pe_imp h fun σ H Q ⟨F, env, A, env', r', em, k⟩ => ?_
  cases em
  exact k v F H A (Frm.refl _ _ _ _) (r F) trivial
theorem re_int {i : Int} {j : Nat} {pos : Pos} : PE X (.Constant (.int i) j pos) (tE X.K (eLit (.int i))) := re_lit pe_int fun _ => .int i
theorem re_str {x : Str} {j : Nat} {pos : Pos} : PE X (.Constant (.str x) j pos) (tE X.K (eLit (.str x))) := re_lit pe_str fun _ => .str x
theorem re_bl {b : Bool} {j : Nat} {pos : Pos} : PE X (.Constant (.bool b) j pos) (tE X.K (eLit (.bool b))) := re_lit pe_bl fun _ => .bl b
theorem re_non {j : Nat} {pos : Pos} : PE X (.Constant .none j pos) (tE X.K (eLit .none)) := re_lit pe_non fun _ => .non

/-! ### argument lists -/
def aNil : MA := fun env => some (env, [])
def aCons (m : ME) (ms : MA) : MA := fun env => (m env).bind fun p => (ms p.1).bind fun q => some (q.1, p.2 :: q.2)
theorem ra_nil : PA X [] (tAs X.K aNil) := by
  refine pa_imp pa_nil fun σ H Q ⟨F, env, A, env', rs, em, k⟩ => ?_
  cases em
  exact k [] F H A (Frm.refl _ _ _ _) trivial fun v hv => by cases hv
theorem ra_cons {e : Expr} {es : List Expr} {m : ME} {ms : MA} (h1 : PE X e (tE X.K m)) (h2 : PA X es (tAs X.K ms)) (hs : starEach (e :: es) X.env = (false, eval e X.env) :: starEach es X.env := by rfl) : PA X (e :: es) (tAs X.K (aCons m ms)) := by
  refine pa_imp (pa_cons h1 h2 hs) fun σ H Q ⟨F, env, A, env', rs, em, k⟩ => ?_
  unfold aCons at em
  cases e1 : m env with
  | none => rw [e1] at em; cases em
  | some p =>
    obtain ⟨env1, r1⟩ := p
    rw [e1] at em
    cases e2 : ms env1 with
    | none => simp [e2] at em
    | some q =>
      obtain ⟨env2, rs2⟩ := q
      simp [e2] at em
      obtain ⟨rfl, rfl⟩ := em
      refine ⟨F, env, A, env1, r1, e1, fun v F1 H1 A1 f1 o1 n1 => ⟨F1, env1, A1, env2, rs2, e2, fun vs F2 H2 A2 f2 o2 n2 => ?_⟩⟩
      refine k (v :: vs) F2 H2 A2 (f1.trans f2) ⟨RV.ok.keep o1 f2, o2, ?_⟩ ?_
      · rintro ⟨d, rfl⟩ hv
        obtain ⟨a, e, n⟩ := n2 v hv
        obtain ⟨a', e', _, oc, _⟩ := o1
        rw [e] at e'; cases e'
        obtain ⟨o, ho⟩ := oc.there
        rw [n] at ho; cases ho
      · intro u hu
        have n2' := n2.back f1
        cases r1 with
        | own d =>
          rcases List.mem_cons.mp hu with rfl | hu
          · exact n1
          · exact n2' u hu
        | fz d => exact n2' u hu
        | plc i => exact n2' u hu

/-! ### operations by data -/
def viewAll (env : MEnv) : List RV → Option (List PyData)
  | [] => some []
  | r :: rs => (r.view env).bind fun d => (viewAll env rs).bind fun ds => some (d :: ds)
inductive RkAll (K : PySem.W.Frag) (F H : Hp) : List V → List PyData → Prop
  | nil : RkAll K F H [] []
  | cons {v : V} {vs : List V} {d : PyData} {ds : List PyData} : Rk K F H v d → RkAll K F H vs ds → RkAll K F H (v :: vs) (d :: ds)
theorem rk_all {K : PySem.W.Frag} {F H : Hp} {σ : L2.St} {env : MEnv} (A : Abs K F H σ env) : ∀ {vs : List V} {rs : List RV} {ds : List PyData}, rvsOk K F H σ env vs rs → viewAll env rs = some ds → RkAll K F H vs ds
  | [], [], ds, _, e => by cases e; exact .nil
  | v :: vs, r :: rs, ds, h, e => by
    unfold viewAll at e
    cases e1 : r.view env with
    | none => rw [e1] at e; cases e
    | some d =>
      rw [e1] at e
      cases e2 : viewAll env rs with
      | none => rw [e2] at e; cases e
      | some ds' =>
        rw [e2] at e
        cases e
        exact .cons (RV.ok.rk h.1 A e1) (rk_all A h.2.1 e2)
  | [], _ :: _, _, h, _ => h.elim
  | _ :: _, [], _, h, _ => h.elim

def rOp1 (K : PySem.W.Frag) (f : PyData → Option RV) : V → Hp → VK → Prop := fun x H Q => ∃ F d r, Same F H ∧ Rk K F H x d ∧ f d = some r ∧ Gives K F H Q r
def rOp2 (K : PySem.W.Frag) (f : PyData → PyData → Option RV) : R2 := fun x y H Q => ∃ F d e r, Same F H ∧ Rk K F H x d ∧ Rk K F H y e ∧ f d e = some r ∧ Gives K F H Q r
def rCall (K : PySem.W.Frag) (f : List PyData → Option RV) : List V → Hp → VK → Prop := fun vs H Q => ∃ F ds r, Same F H ∧ RkAll K F H vs ds ∧ f ds = some r ∧ Gives K F H Q r
def eOp1 (f : PyData → Option RV) (m : ME) : ME := fun env => (m env).bind fun p => (p.2.view p.1).bind fun d => (f d).bind fun r => some (p.1, r)
def eOp2 (f : PyData → PyData → Option RV) (ma mb : ME) : ME := fun env => (ma env).bind fun p => (mb p.1).bind fun q => (p.2.view q.1).bind fun d => (q.2.view q.1).bind fun e => (f d e).bind fun r => some (q.1, r)
def eCall (f : List PyData → Option RV) (ms : MA) : ME := fun env => (ms env).bind fun p => (viewAll p.1 p.2).bind fun ds => (f ds).bind fun r => some (p.1, r)

theorem bind_some {α β : Type} {x : Option α} {f : α → Option β} {b : β} (h : x.bind f = some b) : ∃ a, x = some a ∧ f a = some b := by
  cases x with
  | none => cases h
  | some a => exact ⟨a, rfl, h⟩
theorem op1_to {K : PySem.W.Frag} {f : PyData → Option RV} {m : ME} {σ : L2.St} {H : Hp} {Q : VK} (h : tE K (eOp1 f m) σ H Q) : tE K m σ H fun x H1 => rOp1 K f x H1 Q := by
  obtain ⟨F, env, A, env', r, em, k⟩ := h
  obtain ⟨⟨env1, r1⟩, e1, em⟩ := bind_some em
  obtain ⟨d, e2, em⟩ := bind_some em
  obtain ⟨r', e3, em⟩ := bind_some em
  cases em
  exact ⟨F, env, A, env1, r1, e1, fun v F1 H1 A1 f1 o1 n1 => ⟨F1, d, _, A1.same, RV.ok.rk o1 A1 e2, e3, gives_to A1 f1 k⟩⟩
theorem op2_to {K : PySem.W.Frag} {f : PyData → PyData → Option RV} {ma mb : ME} {σ : L2.St} {H : Hp} {Q : VK} (h : tE K (eOp2 f ma mb) σ H Q) : tE K ma σ H fun x H1 => tE K mb σ H1 fun y H2 => rOp2 K f x y H2 Q := by
  obtain ⟨F, env, A, env', r, em, k⟩ := h
  obtain ⟨⟨env1, r1⟩, e1, em⟩ := bind_some em
  obtain ⟨⟨env2, r2⟩, e2, em⟩ := bind_some em
  obtain ⟨d, e3, em⟩ := bind_some em
  obtain ⟨e, e4, em⟩ := bind_some em
  obtain ⟨r', e5, em⟩ := bind_some em
  cases em
  exact ⟨F, env, A, env1, r1, e1, fun v F1 H1 A1 f1 o1 n1 => ⟨F1, env1, A1, env2, r2, e2, fun u F2 H2 A2 f2 o2 n2 =>
    ⟨F2, d, e, _, A2.same, RV.ok.rk (RV.ok.keep o1 f2) A2 e3, RV.ok.rk o2 A2 e4, e5, gives_to A2 (f1.trans f2) k⟩⟩⟩
theorem call_to {K : PySem.W.Frag} {f : List PyData → Option RV} {ms : MA} {σ : L2.St} {H : Hp} {Q : VK} (h : tE K (eCall f ms) σ H Q) : tAs K ms σ H fun vs H1 => rCall K f vs H1 Q := by
  obtain ⟨F, env, A, env', r, em, k⟩ := h
  obtain ⟨⟨env1, rs⟩, e1, em⟩ := bind_some em
  obtain ⟨ds, e2, em⟩ := bind_some em
  obtain ⟨r', e3, em⟩ := bind_some em
  cases em
  exact ⟨F, env, A, env1, rs, e1, fun vs F1 H1 A1 f1 o1 n1 => ⟨F1, ds, _, A1.same, rk_all A1 o1 e2, e3, gives_to A1 f1 k⟩⟩

variable {a b c e o : Expr} {es : List Expr} {pos p p2 apos cpos : Pos} {f g : PyData → PyData → Option RV} {f1 : PyData → Option RV} {fc : List PyData → Option RV} {ma mb mc mo : ME} {ms : MA} {op op' : CmpOp} {id T : String} {x : Str}
theorem re_op {op : Operator} (ho : OpR X (binaryOp op) (rOp2 X.K f)) (ha : PE X a (tE X.K ma)) (hb : PE X b (tE X.K mb)) : PE X (.BinOp a op b pos) (tE X.K (eOp2 f ma mb)) := pe_imp (pe_op ho ha hb) fun _ _ _ => op2_to
theorem re_un {op : UnaryOp} (ho : UnR X (unaryOp op) (rOp1 X.K f1)) (ha : PE X a (tE X.K ma)) : PE X (.UnaryOp op a pos) (tE X.K (eOp1 f1 ma)) := pe_imp (pe_un ho ha) fun _ _ _ => op1_to
theorem re_ix (hr : IxR X (rOp2 X.K f)) (ha : PE X a (tE X.K ma)) (hb : PE X b (tE X.K mb)) (hs : PlainIx b) : PE X (.Subscript a b pos) (tE X.K (eOp2 f ma mb)) := pe_imp (pe_ix hr ha hb hs) fun _ _ _ => op2_to
theorem re_cmp (ho : OpR X (compareOp op) (rOp2 X.K f)) (ha : PE X a (tE X.K ma)) (hb : PE X b (tE X.K mb)) (hm : behindInMarks op b = false) : PE X (.Compare a [op] [b] pos) (tE X.K (eOp2 f ma mb)) := pe_imp (pe_cmpR ho ha hb hm) fun _ _ _ => op2_to
theorem re_callB (hc : CallR X (.builtin id) (rCall X.K fc)) (hg : Gl X x) (hm : X.mg x = none) (hv : bootBuiltins x = some (.builtin id)) (ha : PA X (e :: es) (tAs X.K ms)) (hn : x ≠ "__name__" := by decide) (hdb : (x == ("__debug__" : Str)) = false := by decide)
    (he : starEach (e :: es) X.env = (false, eval e X.env) :: starEach es X.env := by rfl) (hpl : (backTo pos (starEach es X.env)).any (·.1) = false := by rfl) : PE X (.Call (.Name x p) (e :: es) [] pos) (tE X.K (eCall fc ms)) :=
  pe_imp (pe_callB hc hg hm hv ha hn hdb he hpl) fun _ _ _ => call_to
theorem re_callTy (hc : CallR X (.type T) (rCall X.K fc)) (hg : Gl X x) (hm : X.mg x = none) (hv : bootBuiltins x = some (.type T)) (ha : PA X (e :: es) (tAs X.K ms)) (hn : x ≠ "__name__" := by decide) (hdb : (x == ("__debug__" : Str)) = false := by decide)
    (he : starEach (e :: es) X.env = (false, eval e X.env) :: starEach es X.env := by rfl) (hpl : (backTo pos (starEach es X.env)).any (·.1) = false := by rfl) : PE X (.Call (.Name x p) (e :: es) [] pos) (tE X.K (eCall fc ms)) :=
  pe_imp (pe_callTy hc hg hm hv ha hn hdb he hpl) fun _ _ _ => call_to

/-! ### tests -/
def asT (m : ME) : MT := fun env => (m env).bind fun p => match p.2 with
  | .fz (.bool k) => some (p.1, k)
  | _ => none
theorem asT_some {m : ME} {env env' : MEnv} {k : Bool} (h : asT m env = some (env', k)) : m env = some (env', .fz (.bool k)) := by
  obtain ⟨⟨env1, r⟩, e1, em⟩ := bind_some h
  split at em
  · rename_i k' e
    cases em
    rw [e1]
    have e' : r = RV.fz (.bool k) := e
    rw [e']
  · cases em
theorem asT_to {K : PySem.W.Frag} {m : ME} {σ : L2.St} {H : Hp} {Q : Bool → Hp → Prop} (h : tT K (asT m) σ H Q) : tE K m σ H fun x H1 => ∃ k, x = .bl k ∧ Q k H1 := by
  obtain ⟨F, env, A, env', k, em, kk⟩ := h
  refine ⟨F, env, A, env', .fz (.bool k), asT_some em, fun v F' H' A' f' o' _ => ⟨k, ?_, kk F' H' A' f'⟩⟩
  cases (show Rp K F' v (.bool k) from o')
  rfl
theorem rt_cmp (ho : OpR X (compareOp op) (rOp2 X.K f)) (ha : PE X a (tE X.K ma)) (hb : PE X b (tE X.K mb)) (hm : behindInMarks op b = false) : PT X (.Compare a [op] [b] pos) (tT X.K (asT (eOp2 f ma mb))) :=
  pt_imp (pt_cmpR ho ha hb hm) fun _ _ _ h => op2_to (asT_to h)
theorem rt_val (h : PE X e (tE X.K ma)) (he : ∀ whole, isTrue e X.env whole = (do let v ← whole; standAt e.pos; holding [v] (truthy v)) := by intro _; rfl) : PT X e (tT X.K (asT ma)) :=
  pt_imp (pt_val h he) fun _ _ _ q => asT_to q
def mAnd (s t : MT) : MT := fun env => (s env).bind fun p => if p.2 = true then t p.1 else some (p.1, false)
def mOr (s t : MT) : MT := fun env => (s env).bind fun p => if p.2 = true then some (p.1, true) else t p.1
def mNot (s : MT) : MT := fun env => (s env).bind fun p => some (p.1, !p.2)
theorem tT_bind {K : PySem.W.Frag} {s : MT} {g : MEnv → Bool → Option (MEnv × Bool)} {σ : L2.St} {H : Hp} {Q : Bool → Hp → Prop} (h : tT K (fun env => (s env).bind fun p => g p.1 p.2) σ H Q) :
    tT K s σ H fun b H1 => ∀ t : MT, (∀ env, t env = g env b) → tT K t σ H1 Q := by
  obtain ⟨F, env, A, env', k, em, kk⟩ := h
  obtain ⟨⟨env1, b⟩, e1, em⟩ := bind_some em
  exact ⟨F, env, A, env1, b, e1, fun F1 H1 A1 f1 t ht => ⟨F1, env1, A1, env', k, (ht env1).trans em, fun F2 H2 A2 f2 => kk F2 H2 A2 (f1.trans f2)⟩⟩
theorem tT_done {K : PySem.W.Frag} {b : Bool} {σ : L2.St} {H : Hp} {Q : Bool → Hp → Prop} (h : tT K (fun env => some (env, b)) σ H Q) : Q b H := by
  obtain ⟨F, env, A, env', k, em, kk⟩ := h
  cases em
  exact kk F H A (Frm.refl _ _ _ _)
theorem tT_mono {K : PySem.W.Frag} {s : MT} {σ : L2.St} {H : Hp} {Q Q' : Bool → Hp → Prop} (h : tT K s σ H Q) (i : ∀ b H, Q b H → Q' b H) : tT K s σ H Q' := by
  obtain ⟨F, env, A, env', k, em, kk⟩ := h
  exact ⟨F, env, A, env', k, em, fun F' H' A' f' => i _ _ (kk F' H' A' f')⟩
theorem and_to {K : PySem.W.Frag} {s t : MT} {σ : L2.St} {H : Hp} {Q : Bool → Hp → Prop} (h : tT K (mAnd s t) σ H Q) : tAnd (tT K s) (tT K t) σ H Q := by
  refine tT_mono (tT_bind (g := fun env b => if b = true then t env else some (env, false)) h) fun b H1 q => ?_
  cases b with
  | true => exact q t fun env => rfl
  | false => exact tT_done (q (fun env => some (env, false)) fun env => rfl)
theorem or_to {K : PySem.W.Frag} {s t : MT} {σ : L2.St} {H : Hp} {Q : Bool → Hp → Prop} (h : tT K (mOr s t) σ H Q) : tOr (tT K s) (tT K t) σ H Q := by
  refine tT_mono (tT_bind (g := fun env b => if b = true then some (env, true) else t env) h) fun b H1 q => ?_
  cases b with
  | true => exact tT_done (q (fun env => some (env, true)) fun env => rfl)
  | false => exact q t fun env => rfl
theorem not_to {K : PySem.W.Frag} {s : MT} {σ : L2.St} {H : Hp} {Q : Bool → Hp → Prop} (h : tT K (mNot s) σ H Q) : tNot (tT K s) σ H Q :=
  tT_mono (tT_bind (g := fun env b => some (env, !b)) h) fun b H1 q => tT_done (q (fun env => some (env, !b)) fun env => rfl)
theorem pw_imp {X : Cx} {e : Expr} {t t' : TT} (h : PW X e t) (i : ∀ σ H Q, t' σ H Q → t σ H Q) : PW X e t' := ⟨fun wh pins s σ H Q I q => h.run wh pins s σ H Q I (i σ H Q q)⟩
variable {mt mt' : MT} {rest : List Expr}
theorem rw_and1 (ha : PT X a (tT X.K mt)) : PW X (.BoolOp .And [a] pos) (tT X.K mt) := pw_and1 ha
theorem rw_or1 (ha : PT X a (tT X.K mt)) : PW X (.BoolOp .Or [a] pos) (tT X.K mt) := pw_or1 ha
theorem rw_and (ha : PT X a (tT X.K mt)) (hb : PW X (.BoolOp .And (b :: rest) pos) (tT X.K mt')) : PW X (.BoolOp .And (a :: b :: rest) pos) (tT X.K (mAnd mt mt')) := pw_imp (pw_and ha hb) fun _ _ _ => and_to
theorem rw_or (ha : PT X a (tT X.K mt)) (hb : PW X (.BoolOp .Or (b :: rest) pos) (tT X.K mt')) : PW X (.BoolOp .Or (a :: b :: rest) pos) (tT X.K (mOr mt mt')) := pw_imp (pw_or ha hb) fun _ _ _ => or_to
theorem rt_not (ha : PT X a (tT X.K mt)) : PT X (.UnaryOp .Not a pos) (tT X.K (mNot mt)) := pt_imp (pt_not ha) fun _ _ _ => not_to
/-- .. as values that are truths -/
def eT (t : MT) : ME := fun env => (t env).bind fun p => some (p.1, .fz (.bool p.2))
theorem and_toV {K : PySem.W.Frag} {s t : MT} {σ : L2.St} {H : Hp} {Q : VK} {ta tb : TE} (ia : ∀ σ H Q, tT K s σ H Q → ta σ H fun x H1 => ∃ k, x = .bl k ∧ Q k H1) (ib : ∀ σ H Q, tE K (eT t) σ H Q → tb σ H Q) (h : tE K (eT (mAnd s t)) σ H Q) : tAndV ta tb σ H Q := by
  obtain ⟨F, env, A, env', r, em, k⟩ := h
  obtain ⟨⟨env1, b⟩, e1, em⟩ := bind_some em
  cases em
  obtain ⟨⟨env2, b2⟩, e2, em⟩ := bind_some e1
  refine ia _ _ _ ⟨F, env, A, env2, b2, e2, fun F1 H1 A1 f1 => ?_⟩
  cases b2 with
  | true =>
    refine ib _ _ _ ⟨F1, env2, A1, env1, _, ?_, fun v F2 H2 A2 f2 o2 n2 => k v F2 H2 A2 (f1.trans f2) o2 trivial⟩
    have em' : t env2 = some (env1, b) := em
    show (t env2).bind _ = _
    rw [em']
    rfl
  | false =>
    have em' : some (env2, false) = some (env1, b) := em
    cases em'
    exact k (.bl false) F1 H1 A1 f1 (Rp.bl false) trivial
theorem or_toV {K : PySem.W.Frag} {s t : MT} {σ : L2.St} {H : Hp} {Q : VK} {ta tb : TE} (ia : ∀ σ H Q, tT K s σ H Q → ta σ H fun x H1 => ∃ k, x = .bl k ∧ Q k H1) (ib : ∀ σ H Q, tE K (eT t) σ H Q → tb σ H Q) (h : tE K (eT (mOr s t)) σ H Q) : tOrV ta tb σ H Q := by
  obtain ⟨F, env, A, env', r, em, k⟩ := h
  obtain ⟨⟨env1, b⟩, e1, em⟩ := bind_some em
  cases em
  obtain ⟨⟨env2, b2⟩, e2, em⟩ := bind_some e1
  refine ia _ _ _ ⟨F, env, A, env2, b2, e2, fun F1 H1 A1 f1 => ?_⟩
  cases b2 with
  | false =>
    refine ib _ _ _ ⟨F1, env2, A1, env1, _, ?_, fun v F2 H2 A2 f2 o2 n2 => k v F2 H2 A2 (f1.trans f2) o2 trivial⟩
    have em' : t env2 = some (env1, b) := em
    show (t env2).bind _ = _
    rw [em']
    rfl
  | true =>
    have em' : some (env2, true) = some (env1, b) := em
    cases em'
    exact k (.bl true) F1 H1 A1 f1 (Rp.bl true) trivial
/-- a value that is a truth -/
structure PB (X : Cx) (e : Expr) (t : MT) : Prop where
  ex : ∃ te, PE X e te ∧ (∀ σ H Q, tT X.K t σ H Q → te σ H fun x H1 => ∃ k, x = .bl k ∧ Q k H1) ∧ ∀ σ H Q, tE X.K (eT t) σ H Q → te σ H Q
theorem asT_toE {K : PySem.W.Frag} {m : ME} {σ : L2.St} {H : Hp} {Q : VK} (h : tE K (eT (asT m)) σ H Q) : tE K m σ H Q := by
  obtain ⟨F, env, A, env', r, em, k⟩ := h
  obtain ⟨⟨env1, b⟩, e1, em⟩ := bind_some em
  cases em
  exact ⟨F, env, A, env1, _, asT_some e1, k⟩
theorem rb_val (h : PE X e (tE X.K ma)) : PB X e (asT ma) := ⟨tE X.K ma, h, fun _ _ _ => asT_to, fun _ _ _ => asT_toE⟩
theorem eT_toT {K : PySem.W.Frag} {t : MT} {σ : L2.St} {H : Hp} {Q : Bool → Hp → Prop} (h : tT K t σ H Q) : tE K (eT t) σ H fun x H1 => ∃ k, x = .bl k ∧ Q k H1 := by
  obtain ⟨F, env, A, env', k, em, kk⟩ := h
  refine ⟨F, env, A, env', .fz (.bool k), ?_, fun v F' H' A' f' o' _ => ⟨k, ?_, kk F' H' A' f'⟩⟩
  · show (t env).bind _ = _
    rw [em]
    rfl
  · cases (show Rp K F' v (.bool k) from o')
    rfl
theorem re_truth (h : PB X e mt) : PE X e (tE X.K (eT mt)) := by
  obtain ⟨te, h1, h2, h3⟩ := h.ex
  exact pe_imp h1 h3
theorem rb_of (h : PE X e (tE X.K (eT mt))) : PB X e mt := ⟨tE X.K (eT mt), h, fun _ _ _ => eT_toT, fun _ _ _ q => q⟩
theorem rb_one {op : BoolOp} (h : PB X a mt) : PB X (.BoolOp op [a] pos) mt := by
  obtain ⟨te, h1, h2, h3⟩ := h.ex
  exact ⟨te, pe_one h1, h2, h3⟩
theorem rb_and (ha : PB X a mt) (hb : PB X (.BoolOp .And (b :: rest) pos) mt') : PB X (.BoolOp .And (a :: b :: rest) pos) (mAnd mt mt') := by
  obtain ⟨ta, h1, h2, _⟩ := ha.ex
  obtain ⟨tb, g1, _, g3⟩ := hb.ex
  exact rb_of (pe_imp (pe_and h1 g1) fun _ _ _ => and_toV h2 g3)
theorem rb_or (ha : PB X a mt) (hb : PB X (.BoolOp .Or (b :: rest) pos) mt') : PB X (.BoolOp .Or (a :: b :: rest) pos) (mOr mt mt') := by
  obtain ⟨ta, h1, h2, _⟩ := ha.ex
  obtain ⟨tb, g1, _, g3⟩ := hb.ex
  exact rb_of (pe_imp (pe_or h1 g1) fun _ _ _ => or_toV h2 g3)
theorem rb_not (ha : PB X a mt) : PB X (.UnaryOp .Not a pos) (mNot mt) := by
  obtain ⟨ta, h1, h2, _⟩ := ha.ex
  refine rb_of (pe_imp (pe_not h1) fun σ H Q h => ?_)
  obtain ⟨F, env, A, env', r, em, k⟩ := h
  obtain ⟨⟨env1, b⟩, e1, em⟩ := bind_some em
  cases em
  obtain ⟨⟨env2, b2⟩, e2, em⟩ := bind_some e1
  cases em
  exact h2 _ _ _ ⟨F, env, A, env2, b2, e2, fun F1 H1 A1 f1 => k (.bl (!b2)) F1 H1 A1 f1 (Rp.bl _) trivial⟩
def eIf (t : MT) (m n : ME) : ME := fun env => (t env).bind fun p => if p.2 = true then m p.1 else n p.1
theorem re_if (hc : PT X c (tT X.K mt)) (ha : PE X a (tE X.K ma)) (hb : PE X b (tE X.K mb)) : PE X (.IfExp c a b pos) (tE X.K (eIf mt ma mb)) := by
  refine pe_imp (pe_ifExp hc ha hb) fun σ H Q ⟨F, env, A, env', r, em, k⟩ => ?_
  obtain ⟨⟨env1, b1⟩, e1, em⟩ := bind_some em
  refine ⟨F, env, A, env1, b1, e1, fun F1 H1 A1 f1 => ?_⟩
  cases b1 with
  | true => exact ⟨F1, env1, A1, env', r, em, fun v F2 H2 A2 f2 o2 n2 => k v F2 H2 A2 (f1.trans f2) o2 (RV.isNew.back n2 f1)⟩
  | false => exact ⟨F1, env1, A1, env', r, em, fun v F2 H2 A2 f2 o2 n2 => k v F2 H2 A2 (f1.trans f2) o2 (RV.isNew.back n2 f1)⟩
/-- a op b op' c -/
def eChain (f g : PyData → PyData → Option RV) (ma mb mc : ME) : ME := fun env => (ma env).bind fun p => (mb p.1).bind fun q => (p.2.view q.1).bind fun d => (q.2.view q.1).bind fun e => (f d e).bind fun r => match r with
  | .fz (.bool true) => (mc q.1).bind fun s => (q.2.view s.1).bind fun e' => (s.2.view s.1).bind fun h => (g e' h).bind fun r' => some (s.1, r')
  | .fz (.bool false) => some (q.1, .fz (.bool false))
  | _ => none
theorem chain_to {K : PySem.W.Frag} {σ : L2.St} {H : Hp} {Q : VK} (h : tE K (eChain f g ma mb mc) σ H Q) : tChain (rOp2 K f) (rOp2 K g) (tE K ma) (tE K mb) (tE K mc) σ H Q := by
  obtain ⟨F, env, A, env', r, em, k⟩ := h
  obtain ⟨⟨env1, r1⟩, e1, em⟩ := bind_some em
  obtain ⟨⟨env2, r2⟩, e2, em⟩ := bind_some em
  obtain ⟨d, e3, em⟩ := bind_some em
  obtain ⟨e, e4, em⟩ := bind_some em
  obtain ⟨r', e5, em⟩ := bind_some em
  refine ⟨F, env, A, env1, r1, e1, fun v F1 H1 A1 f1 o1 n1 => ⟨F1, env1, A1, env2, r2, e2, fun u F2 H2 A2 f2 o2 n2 =>
    ⟨F2, d, e, r', A2.same, RV.ok.rk (RV.ok.keep o1 f2) A2 e3, RV.ok.rk o2 A2 e4, e5, fun w F3 H3 sF sH s' nw res => ?_⟩⟩⟩
  obtain ⟨A3, f3⟩ := grow A2 sF sH s' nw
  split at em
  · have res' : Rp K F3 w (.bool true) := res
    cases res'
    refine ⟨true, rfl, ?_⟩
    obtain ⟨⟨env4, r4⟩, g1, em⟩ := bind_some em
    obtain ⟨e', g2, em⟩ := bind_some em
    obtain ⟨hh, g3, em⟩ := bind_some em
    obtain ⟨r5, g4, em⟩ := bind_some em
    cases em
    exact ⟨F3, env2, A3, env4, r4, g1, fun z F4 H4 A4 f4 o4 n4 => ⟨F4, e', hh, _, A4.same, RV.ok.rk (RV.ok.keep (RV.ok.keep o2 f3) f4) A4 g2, RV.ok.rk o4 A4 g3, g4, gives_to A4 (((f1.trans f2).trans f3).trans f4) k⟩⟩
  · have res' : Rp K F3 w (.bool false) := res
    cases res'
    cases em
    exact ⟨false, rfl, k (.bl false) F3 H3 A3 ((f1.trans f2).trans f3) (Rp.bl false) trivial⟩
  · cases em
theorem re_chain (ho : OpR X (compareOp op) (rOp2 X.K f)) (ho' : OpR X (compareOp op') (rOp2 X.K g)) (ha : PE X a (tE X.K ma)) (hb : PE X b (tE X.K mb)) (hc : PE X c (tE X.K mc))
    (hm : lastMarks [op, op'] [b, c] = false := by with_unfolding_all rfl) : PE X (.Compare a [op, op'] [b, c] pos) (tE X.K (eChain f g ma mb mc)) := pe_imp (pe_chain ho ho' ha hb hc hm) fun _ _ _ => chain_to
theorem rt_chain (ho : OpR X (compareOp op) (rOp2 X.K f)) (ho' : OpR X (compareOp op') (rOp2 X.K g)) (ha : PE X a (tE X.K ma)) (hb : PE X b (tE X.K mb)) (hc : PE X c (tE X.K mc))
    (hm : lastMarks [op, op'] [b, c] = false := by with_unfolding_all rfl) : PT X (.Compare a [op, op'] [b, c] pos) (tT X.K (asT (eChain f g ma mb mc))) := pt_imp (pt_chain ho ho' ha hb hc hm) fun _ _ _ h => chain_to (asT_to h)
end
end L3

/-! L3C: freezing, displays, what is walked, comprehensions. -/
namespace L3
open PySem PySem.Spec PyProof.Rows L2

abbrev lineN : Nat := 16777216
theorem lineN_eq : lineN = sizeLine := sizeLine_eq.symm

/-! ### freezing -/
def RV.fix (env : MEnv) : RV → Option (MEnv × PyData)
  | .fz d => some (env, d)
  | .own d => some (env, d)
  | .plc i => (env[i]?).bind fun x => x.view.bind fun d => some (env.set i x.freeze, d)
def fixAll (env : MEnv) : List RV → Option (MEnv × List PyData)
  | [] => some (env, [])
  | r :: rs => (r.fix env).bind fun p => (fixAll p.1 rs).bind fun q => some (q.1, p.2 :: q.2)

section
variable {K : PySem.W.Frag} {F H F' H' F0 H0 : Hp} {σ σ0 : L2.St} {env env' env0 : MEnv}
/-- F with what stands at a in H -/
def join (F H : Hp) (a : Addr) : Hp := fun b => if b = a then H a else F b
theorem join_same (F H : Hp) (a : Addr) : join F H a a = H a := by unfold join; rw [if_pos rfl]
theorem join_ne {F H : Hp} {a b : Addr} (h : b ≠ a) : join F H a b = F b := by unfold join; rw [if_neg h]
theorem join_le {F H : Hp} {a : Addr} (h : F a = none) : Same F (join F H a) := fun b o q => by
  rw [join_ne (ne_of_none q h)]; exact q
theorem join_sub {F H : Hp} {a : Addr} (e : Same F H) : Same (join F H a) H := fun b o q => by
  by_cases hb : b = a
  · subst hb; rw [join_same] at q; exact q
  · rw [join_ne hb] at q; exact e b o q
theorem OwnC.joined {a : Addr} {d : PyData} (h : OwnC K F H a d) (e : F a = none) : Rp K (join F H a) (.ref a) d := by
  have s := join_le (H := H) e
  cases d with
  | list ds => obtain ⟨xs, q, r⟩ := h; exact .lst (SqL.of ((join_same F H a).trans q)) (r.mono s)
  | dict kvs =>
    rcases h with ⟨ks, ds, q, r, z⟩ | ⟨ks, ds, q, r, n, z⟩ | ⟨vs, q, n, z⟩
    · subst z; exact .dK (.inl ((join_same F H a).trans q)) (r.mono s)
    · subst z; exact .dT (.inl ((join_same F H a).trans q)) n (r.mono s)
    · subst z; exact .dB ((join_same F H a).trans q) n
  | _ => exact h.elim
/-- slots that do not own a stay as they are when a is frozen -/
theorem slot_join {x : SV} {a : Addr} {y : Option (Option V)} (h : x.ok K F H y) (e : F a = none) (n : ∀ d, x.isOwn = some d → y ≠ some (some (.ref a))) : x.ok K (join F H a) H y := by
  have s := join_le (H := H) e
  have own : ∀ d, x.isOwn = some d → (∃ b, y = some (some (.ref b)) ∧ F b = none ∧ OwnC K F H b d) → ∃ b, y = some (some (.ref b)) ∧ join F H a b = none ∧ OwnC K (join F H a) H b d := fun d o ⟨b, q, f, c⟩ => by
    have hb : b ≠ a := fun z => by subst z; exact n d o q
    exact ⟨b, q, (join_ne hb).trans f, c.keep s fun o z => z⟩
  cases x with
  | unb => trivial
  | fz d => obtain ⟨v, q, r⟩ := h; exact ⟨v, q, r.mono s⟩
  | rfz d => obtain ⟨v, q, r⟩ := h; exact ⟨v, q, r.mono s⟩
  | own d => exact own d rfl h
  | ref d => exact own d rfl h
theorem getSet {env : MEnv} {i j : Nat} {x y : SV} (h : (env.set i x)[j]? = some y) : (j = i ∧ y = x ∧ i < env.length) ∨ (j ≠ i ∧ env[j]? = some y) := by
  by_cases hj : j = i
  · subst hj
    by_cases hl : j < env.length
    · rw [List.getElem?_set_self hl] at h
      exact .inl ⟨rfl, (Option.some.inj h).symm, hl⟩
    · rw [List.getElem?_eq_none (by rw [List.length_set]; omega)] at h
      cases h
  · rw [List.getElem?_set_ne (Ne.symm hj)] at h
    exact .inr ⟨hj, h⟩
/-- one slot's root is frozen -/
theorem freeze_slot (A : Abs K F H σ env) {i : Nat} {x : SV} {d : PyData} (e : env[i]? = some x) (o : x.view = some d) :
    ∃ F' v, σ[i]? = some (some v) ∧ Abs K F' H σ (env.set i x.freeze) ∧ Frm F H σ env F' H σ (env.set i x.freeze) ∧ Rp K F' v d := by
  have same : x.freeze = x → (∃ v, σ[i]? = some (some v) ∧ Rp K F v d) → ∃ F' v, σ[i]? = some (some v) ∧ Abs K F' H σ (env.set i x.freeze) ∧ Frm F H σ env F' H σ (env.set i x.freeze) ∧ Rp K F' v d := fun hx ⟨v, q, r⟩ => by
    have es : env.set i x.freeze = env := by
      rw [hx]
      exact List.ext_getElem? fun j => by
        by_cases hj : j = i
        · subst hj
          rw [List.getElem?_set_self (List.getElem?_eq_some_iff.mp e).1]; exact e.symm
        · rw [List.getElem?_set_ne (Ne.symm hj)]
    rw [es]
    exact ⟨F, v, q, A, Frm.refl _ _ _ _, r⟩
  have own : ∀ (a : Addr), x.isOwn = some d → x.freeze.isOwn = none → (x.lock = true → x.freeze.lock = true) → (∀ z, x.freeze ≠ .own z) → σ[i]? = some (some (.ref a)) → F a = none → OwnC K F H a d → (∀ G v, σ[i]? = some (some v) → Rp K G v d → x.freeze.ok K G H (σ[i]?)) →
      ∃ F' v, σ[i]? = some (some v) ∧ Abs K F' H σ (env.set i x.freeze) ∧ Frm F H σ env F' H σ (env.set i x.freeze) ∧ Rp K F' v d := fun a ho hn hl hu hs hf hc hk => by
    have own1 : ∀ j b, OwnsAt σ (env.set i x.freeze) j b → OwnsAt σ env j b ∧ j ≠ i := fun j b ⟨y, dy, e1, e2, e3⟩ => by
      rcases getSet e1 with ⟨rfl, rfl, _⟩ | ⟨hj, e1⟩
      · rw [hn] at e2; cases e2
      · exact ⟨⟨y, dy, e1, e2, e3⟩, hj⟩
    refine ⟨join F H a, .ref a, hs, ⟨join_sub A.same, by rw [List.length_set]; exact A.len, fun j y ey => ?_, fun j l b h1 h2 => A.inj j l b (own1 j b h1).1 (own1 l b h2).1⟩, ⟨join_le hf, fun b o h _ => h, fun b o h => ⟨o, h⟩, fun b o h => ?_, fun b ⟨j, h⟩ => .inl ⟨j, (own1 j b h).1⟩, fun b ⟨j, z, h1, h2⟩ => ?_, fun j y e1 l => ?_, by rw [List.length_set]⟩, hc.joined hf⟩
    · rcases getSet ey with ⟨rfl, rfl, _⟩ | ⟨hj, ey⟩
      · exact hk _ _ hs (hc.joined hf)
      · refine slot_join (A.slot j y ey) hf fun dy oy z => hj (A.inj j i a ⟨y, dy, ey, oy, z⟩ ⟨x, d, e, ho, hs⟩)
    · by_cases hb : b = a
      · subst hb; exact .inr (.inr ⟨i, x, d, e, ho, hs⟩)
      · rw [join_ne hb] at h; exact .inl h
    · rcases getSet h1 with ⟨rfl, q, _⟩ | ⟨hj, h1⟩
      · exact (hu z q.symm).elim
      · exact .inl ⟨j, z, h1, h2⟩
    · refine ⟨rfl, ?_⟩
      by_cases hj : j = i
      · subst hj
        rw [e] at e1; cases e1
        exact ⟨x.freeze, List.getElem?_set_self (List.getElem?_eq_some_iff.mp e).1, hl l⟩
      · exact ⟨y, by rw [List.getElem?_set_ne (Ne.symm hj)]; exact e1, l⟩
  have h := A.slot i x e
  cases x with
  | unb => cases o
  | fz d' => cases o; exact same rfl h
  | rfz d' => cases o; exact same rfl h
  | own d' => cases o; obtain ⟨a, q, f, c⟩ := h; exact own a rfl rfl (fun z => by cases z) (fun z q => by cases q) q f c fun G v q r => ⟨v, q, r⟩
  | ref d' => cases o; obtain ⟨a, q, f, c⟩ := h; exact own a rfl rfl (fun _ => rfl) (fun z q => by cases q) q f c fun G v q r => ⟨v, q, r⟩
/-- an owned temporary is frozen -/
theorem freeze_temp (A : Abs K F H σ env) (f : Frm F0 H0 σ0 env0 F H σ env) {a : Addr} {d : PyData} (fa : F a = none) (c : OwnC K F H a d) (hn : ¬ Owns σ env a) (h0 : H0 a = none) :
    Abs K (join F H a) H σ env ∧ Frm F0 H0 σ0 env0 (join F H a) H σ env ∧ Rp K (join F H a) (.ref a) d := by
  refine ⟨⟨join_sub A.same, A.len, fun j y ey => slot_join (A.slot j y ey) fa fun dy oy z => hn ⟨j, y, dy, ey, oy, z⟩, A.inj⟩, ⟨f.sameF.trans (join_le fa), f.keep, f.there, fun b o h => ?_, f.own, f.ownU, f.lock, f.len⟩, c.joined fa⟩
  by_cases hb : b = a
  · subst hb; exact .inr (.inl (Lo.none h0))
  · rw [join_ne hb] at h; exact f.new b o h
/-- the other temporaries stay -/
theorem rvsOk.join {a : Addr} (fa : F a = none) : ∀ {vs : List V} {rs : List RV}, rvsOk K F H σ env vs rs → (∀ v ∈ ownVs vs rs, v ≠ .ref a) → rvsOk K (join F H a) H σ env vs rs
  | [], [], _, _ => trivial
  | v :: vs, .fz d :: rs, h, n => ⟨Rp.mono (join_le fa) h.1, rvsOk.join fa h.2.1 n, h.2.2⟩
  | v :: vs, .plc i :: rs, h, n => ⟨h.1, rvsOk.join fa h.2.1 n, h.2.2⟩
  | v :: vs, .own d :: rs, h, n => by
    obtain ⟨⟨b, e, f, c, o⟩, h2, h3⟩ := h
    have hb : b ≠ a := fun z => by subst z; exact n v List.mem_cons_self e
    exact ⟨⟨b, e, (join_ne hb).trans f, c.keep (join_le fa) fun _ z => z, o⟩, rvsOk.join fa h2 fun u hu => n u (List.mem_cons_of_mem _ hu), h3⟩
  | [], _ :: _, h, _ => h.elim
  | _ :: _, [], h, _ => h.elim
theorem fix_all : ∀ {vs : List V} {rs : List RV} {F : Hp} {env env' : MEnv} {ds : List PyData}, Abs K F H σ env → Frm F0 H0 σ0 env0 F H σ env → rvsOk K F H σ env vs rs → rvsNew H0 vs rs → fixAll env rs = some (env', ds) →
    ∃ F', Abs K F' H σ env' ∧ Frm F0 H0 σ0 env0 F' H σ env' ∧ RpAll K F' vs ds ∧ Same F F'
  | [], [], F, env, env', ds, A, f, _, _, e => by cases e; exact ⟨F, A, f, .nil, Same.refl _⟩
  | v :: vs, r :: rs, F, env, env', ds, A, f, h, n, e => by
    obtain ⟨⟨env1, d⟩, e1, e⟩ := bind_some e
    obtain ⟨⟨env2, ds'⟩, e2, e⟩ := bind_some e
    cases e
    cases r with
    | fz d' =>
      cases e1
      obtain ⟨F', A', f', r', s'⟩ := fix_all A f h.2.1 n e2
      exact ⟨F', A', f', .cons (Rp.mono s' h.1) r', s'⟩
    | own d' =>
      cases e1
      obtain ⟨⟨a, rfl, fa, c, o⟩, h2, h3⟩ := h
      obtain ⟨a', ea, ha⟩ := n _ List.mem_cons_self
      cases ea
      obtain ⟨A1, f1, r1⟩ := freeze_temp A f fa c o ha
      obtain ⟨F', A', f', r', s'⟩ := fix_all A1 f1 (h2.join fa fun v hv z => by subst z; exact h3 ⟨_, rfl⟩ hv) (fun v hv => n v (List.mem_cons_of_mem _ hv)) e2
      exact ⟨F', A', f', .cons (r1.mono s') r', (join_le fa).trans s'⟩
    | plc i =>
      obtain ⟨x, ex, e1⟩ := bind_some e1
      obtain ⟨d', ed, e1⟩ := bind_some e1
      cases e1
      obtain ⟨F1, u, hu, A1, f1, r1⟩ := freeze_slot A ex ed
      have hv : σ[i]? = some (some v) := h.1
      rw [hv] at hu
      cases hu
      obtain ⟨F', A', f', r', s'⟩ := fix_all A1 (f.trans f1) (h.2.1.keep f1) n e2
      exact ⟨F', A', f', .cons (r1.mono s') r', f1.sameF.trans s'⟩
  | [], _ :: _, _, _, _, _, _, _, h, _, _ => h.elim
  | _ :: _, [], _, _, _, _, _, _, h, _, _ => h.elim
theorem fix_one {v : V} {r : RV} {d : PyData} (A : Abs K F H σ env) (f : Frm F0 H0 σ0 env0 F H σ env) (h : r.ok K F H σ env v) (n : r.isNew H0 v) (e : r.fix env = some (env', d)) :
    ∃ F', Abs K F' H σ env' ∧ Frm F0 H0 σ0 env0 F' H σ env' ∧ Rp K F' v d ∧ Same F F' := by
  have e' : fixAll env [r] = some (env', [d]) := by
    unfold fixAll
    rw [e]
    rfl
  have hn : rvsNew H0 [v] [r] := fun u hu => by
    cases r with
    | own d =>
      rcases List.mem_cons.mp hu with rfl | hu
      · exact n
      · cases hu
    | fz d => cases hu
    | plc i => cases hu
  obtain ⟨F', A', f', r', s'⟩ := fix_all (vs := [v]) (rs := [r]) A f ⟨h, trivial, fun _ z => by cases z⟩ hn e'
  cases r' with
  | cons h _ => exact ⟨F', A', f', h, s'⟩
end

/-! ### displays -/
def eTup (ms : MA) : ME := fun env => (ms env).bind fun p => (fixAll p.1 p.2).bind fun q => if q.2.length ≤ lineN then some (q.1, .fz (.tuple q.2)) else none
def eLst (ms : MA) : ME := fun env => (ms env).bind fun p => (fixAll p.1 p.2).bind fun q => if q.2.length ≤ lineN then some (q.1, .own (.list q.2)) else none
section
variable {X : Cx} {es : List Expr} {ms : MA} {pos : Pos}
theorem re_tup {x1 : Nat} (h : PA X es (tAs X.K ms)) : PE X (.Tuple es x1 pos) (tE X.K (eTup ms)) := by
  refine pe_imp (pe_tup h) fun σ H Q ⟨F, env, A, env', r, em, k⟩ => ?_
  obtain ⟨⟨env1, rs⟩, e1, em⟩ := bind_some em
  obtain ⟨⟨env2, ds⟩, e2, em⟩ := bind_some em
  split at em
  · rename_i hz
    cases em
    refine ⟨F, env, A, env1, rs, e1, fun vs F1 H1 A1 f1 o1 n1 => ?_⟩
    obtain ⟨F2, A2, f2, r2, s2⟩ := fix_all A1 f1 o1 n1 e2
    have hz' : ds.length ≤ lineN := hz
    exact ⟨by rw [r2.length, ← lineN_eq]; exact hz', fun p hp => (gives_to A2 f2 k).newTup A2.same r2 hp⟩
  · cases em
theorem re_lst (h : PA X es (tAs X.K ms)) : PE X (.List es pos) (tE X.K (eLst ms)) := by
  refine pe_imp (pe_lst h) fun σ H Q ⟨F, env, A, env', r, em, k⟩ => ?_
  obtain ⟨⟨env1, rs⟩, e1, em⟩ := bind_some em
  obtain ⟨⟨env2, ds⟩, e2, em⟩ := bind_some em
  split at em
  · rename_i hz
    cases em
    refine ⟨F, env, A, env1, rs, e1, fun vs F1 H1 A1 f1 o1 n1 => ?_⟩
    obtain ⟨F2, A2, f2, r2, s2⟩ := fix_all A1 f1 o1 n1 e2
    have hz' : ds.length ≤ lineN := hz
    exact ⟨by rw [r2.length, ← lineN_eq]; exact hz', fun p hp => (gives_to A2 f2 k).newList A2.same r2 hp⟩
  · cases em
end

/-! ### what is walked -/
abbrev MI := MEnv → Option (MEnv × List PyData)
structure ItOk (K : PySem.W.Frag) (J : It) (F : Hp) (ds : List PyData) : Prop where
  stop : ∀ H, Same F H → J.stop ds.length H
  go : ∀ i H, Same F H → i < ds.length → J.go i H
  yld : ∀ i H G x H' d, Same F G → Same G H → J.yld i H x H' → ds[i]? = some d → ∃ G', Same G G' ∧ Same H H' ∧ Same G' H' ∧ (∀ a o, G' a = some o → G a = some o ∨ Lo H a) ∧ Rp K G' x d
def tIt (K : PySem.W.Frag) (m : MI) : TI := fun σ H R => ∃ F env, Abs K F H σ env ∧ ∃ env' ds, m env = some (env', ds) ∧
  ∀ J F' H', Abs K F' H' σ env' → Frm F H σ env F' H' σ env' → ItOk K J F' ds → R J H'
theorem it_list {K : PySem.W.Frag} {F : Hp} {a : Addr} {xs : List V} {ds : List PyData} (h : SqL K F a xs) (r : RpAll K F xs ds) : ItOk K (Itl K a) F ds where
  stop := fun H s => ⟨xs, sql_mono s h, Nat.le_of_eq r.length⟩
  go := fun i H s hi => by
    have hi' : i < xs.length := by rw [r.length]; exact hi
    exact ⟨xs, xs[i], sql_mono s h, List.getElem?_eq_getElem hi'⟩
  yld := fun i H G x H' d s s' y e => by
    obtain ⟨rfl, y⟩ := y
    obtain ⟨v, h1, h2⟩ := r.get e
    have := y xs (sql_mono (s.trans s') h)
    rw [h1] at this; cases this
    exact ⟨G, Same.refl _, Same.refl _, s', fun _ _ h => .inl h, h2.mono s⟩
theorem it_tup {K : PySem.W.Frag} {F : Hp} {a : Addr} {xs : List V} {ds : List PyData} (h : SqT K F a xs) (r : RpAll K F xs ds) : ItOk K (Itt K a) F ds where
  stop := fun H s => ⟨xs, sqt_mono s h, Nat.le_of_eq r.length⟩
  go := fun i H s hi => by
    have hi' : i < xs.length := by rw [r.length]; exact hi
    exact ⟨xs, xs[i], sqt_mono s h, List.getElem?_eq_getElem hi'⟩
  yld := fun i H G x H' d s s' y e => by
    obtain ⟨rfl, y⟩ := y
    obtain ⟨v, h1, h2⟩ := r.get e
    have := y xs (sqt_mono (s.trans s') h)
    rw [h1] at this; cases this
    exact ⟨G, Same.refl _, Same.refl _, s', fun _ _ h => .inl h, h2.mono s⟩
theorem it_range {K : PySem.W.Frag} {F : Hp} (lo : Int) (n : Nat) : ItOk K (Itr lo n) F ((List.range n).map fun i => PyData.int (lo + (i : Nat))) where
  stop := fun H s => by simp [Itr]
  go := fun i H s hi => by simpa [Itr] using hi
  yld := fun i H G x H' d s s' y e => by
    obtain ⟨rfl, rfl⟩ := y
    simp only [List.getElem?_map] at e
    cases q : (List.range n)[i]? with
    | none => rw [q] at e; cases e
    | some j =>
      rw [q] at e
      obtain ⟨hl, hj⟩ := List.getElem?_eq_some_iff.mp q
      rw [List.getElem_range] at hj
      subst hj
      cases e
      exact ⟨G, Same.refl _, Same.refl _, s', fun _ _ h => .inl h, .int _⟩
/-- a list or a tuple -/
def iSeq (m : ME) : MI := fun env => (m env).bind fun p => (p.2.fix p.1).bind fun q => match q.2 with
  | .list ds => some (q.1, ds)
  | .tuple ds => some (q.1, ds)
  | _ => none
section
variable {X : Cx} {tg : Expr} {m ma mb : ME}
/-- where the walked thing is a list or a tuple shows by its value -/
theorem pi_either {l : Expr} {tl : TE} (hl : PE X l tl) : PI X tg l (fun σ H R => tl σ H fun x H1 => (∃ a, x = .ref a ∧ (∃ xs, SqL X.K H1 a xs) ∧ R (Itl X.K a) H1) ∨ ∃ a, x = .ref a ∧ (∃ xs, SqT X.K H1 a xs) ∧ R (Itt X.K a) H1) := by
  refine ⟨fun pins s σ H R I h => ?_⟩
  refine thn (hl.run pins s σ H _ I h) fun v s1 ⟨x, H1, I1, r1, q1⟩ => ?_
  rcases q1 with ⟨a, e, ⟨xs, hq⟩, q⟩ | ⟨a, e, ⟨xs, hq⟩, q⟩
  · subst e
    cases r1
    obtain ⟨its, rv, p, hz⟩ := I1.list hq
    refine wpAny_pyIter_list p.isList ?_
    refine ⟨s1.heap.objs.size, [s1.heap.objs.size], _, _, H1, rfl, I1.kept (t' := s1.toks) fun b o e => Heap.get?_push_of_some _ e, turn_list a _, ⟨_, Heap.get?_push_size _ rfl, rfl, rfl⟩, fun b hb => ?_, q⟩
    have e : b = s1.heap.objs.size := by simpa using hb
    subst e
    exact I1.fpOk (Nat.le_refl _) (I1.hok.fresh (Nat.le_refl _))
  · subst e
    cases r1
    obtain ⟨its, rv, p, hz⟩ := I1.tuple hq
    refine wpAny_pyIter_tuple (show s1.heap.IsTuple a its.toArray from p) ?_
    refine ⟨s1.heap.objs.size, [s1.heap.objs.size], _, _, H1, rfl, I1.kept (t' := s1.toks) fun b o e => Heap.get?_push_of_some _ e, turn_tuple a _, ⟨_, Heap.get?_push_size _ rfl, rfl, rfl⟩, fun b hb => ?_, q⟩
    have e : b = s1.heap.objs.size := by simpa using hb
    subst e
    exact I1.fpOk (Nat.le_refl _) (I1.hok.fresh (Nat.le_refl _))
theorem pi_imp {e : Expr} {t t' : TI} (h : PI X tg e t) (i : ∀ σ H R, t' σ H R → t σ H R) : PI X tg e t' := ⟨fun pins s σ H R I q => h.run pins s σ H R I (i σ H R q)⟩
theorem ri_seq {l : Expr} (hl : PE X l (tE X.K m)) : PI X tg l (tIt X.K (iSeq m)) := by
  refine pi_imp (pi_either hl) fun σ H R ⟨F, env, A, env', ds, em, k⟩ => ?_
  obtain ⟨⟨env1, r⟩, e1, em⟩ := bind_some em
  obtain ⟨⟨env2, d⟩, e2, em⟩ := bind_some em
  refine ⟨F, env, A, env1, r, e1, fun v F1 H1 A1 f1 o1 n1 => ?_⟩
  obtain ⟨F2, A2, f2, r2, s2⟩ := fix_one A1 f1 o1 n1 e2
  split at em
  · rename_i ds' e3
    cases em
    have e3' : d = .list ds := e3
    subst e3'
    cases r2 with
    | lst q r => exact .inl ⟨_, rfl, ⟨_, sql_mono A2.same q⟩, k _ F2 H1 A2 f2 (it_list q r)⟩
  · rename_i ds' e3
    cases em
    have e3' : d = .tuple ds := e3
    subst e3'
    cases r2 with
    | tup q r => exact .inr ⟨_, rfl, ⟨_, SqT.of (A2.same _ _ q)⟩, k _ F2 H1 A2 f2 (it_tup (SqT.of q) r)⟩
  · cases em
def intOf : RV → Option Int
  | .fz (.int i) => some i
  | _ => none
theorem intOf_some {r : RV} {i : Int} (h : intOf r = some i) : r = .fz (.int i) := by
  unfold intOf at h
  split at h
  · cases h; rfl
  · cases h
def iRange1 (m : ME) : MI := fun env => (m env).bind fun p => (intOf p.2).bind fun j => if -(2 ^ 62) ≤ j ∧ j < 2 ^ 62 then some (p.1, (List.range j.toNat).map fun i => PyData.int (0 + (i : Nat))) else none
def iRange2 (ma mb : ME) : MI := fun env => (ma env).bind fun p => (mb p.1).bind fun q => (intOf p.2).bind fun i => (intOf q.2).bind fun j =>
  if -(2 ^ 62) ≤ i ∧ i < 2 ^ 62 ∧ -(2 ^ 62) ≤ j ∧ j < 2 ^ 62 then some (q.1, (List.range (j - i).toNat).map fun k => PyData.int (i + (k : Nat))) else none
theorem ri_range1 {a : Expr} {p pos : Pos} (hg : Gl X "range") (hm : X.mg "range" = none) (ha : PE X a (tE X.K m)) (hs : starEach [a] X.env = [(false, eval a X.env)] := by rfl) (hs1 : starEach (a :: []) X.env = (false, eval a X.env) :: starEach [] X.env := by rfl) :
    PI X tg (.Call (.Name "range" p) [a] [] pos) (tIt X.K (iRange1 m)) := by
  refine pi_imp (pi_range1 hg hm (pa_cons ha pa_nil hs1) hs) fun σ H R ⟨F, env, A, env', ds, em, k⟩ => ?_
  obtain ⟨⟨env1, r⟩, e1, em⟩ := bind_some em
  obtain ⟨j, e2, em⟩ := bind_some em
  split at em
  · rename_i hb
    cases em
    have e2' := intOf_some e2
    have e2'' : r = .fz (.int j) := e2'
    subst e2''
    refine ⟨F, env, A, env1, _, e1, fun v F1 H1 A1 f1 o1 n1 => ?_⟩
    cases (show Rp X.K F1 v (.int j) from o1)
    exact ⟨j, rfl, hb.1, hb.2, k _ F1 H1 A1 f1 (it_range 0 j.toNat)⟩
  · cases em
theorem ri_range2 {a b : Expr} {p pos : Pos} (hg : Gl X "range") (hm : X.mg "range" = none) (ha : PE X a (tE X.K ma)) (hb : PE X b (tE X.K mb)) (hs : starEach [a, b] X.env = [(false, eval a X.env), (false, eval b X.env)] := by rfl) (hs2 : starEach [b] X.env = [(false, eval b X.env)] := by rfl)
    (hs1 : starEach (a :: [b]) X.env = (false, eval a X.env) :: starEach [b] X.env := by rfl) (hs3 : starEach (b :: []) X.env = (false, eval b X.env) :: starEach [] X.env := by rfl) :
    PI X tg (.Call (.Name "range" p) [a, b] [] pos) (tIt X.K (iRange2 ma mb)) := by
  refine pi_imp (pi_range2 hg hm (pa_cons ha (pa_cons hb pa_nil hs3) hs1) hs hs2) fun σ H R ⟨F, env, A, env', ds, em, k⟩ => ?_
  obtain ⟨⟨env1, r1⟩, e1, em⟩ := bind_some em
  obtain ⟨⟨env2, r2⟩, e2, em⟩ := bind_some em
  obtain ⟨i, e3, em⟩ := bind_some em
  obtain ⟨j, e4, em⟩ := bind_some em
  split at em
  · rename_i hb
    cases em
    have e3' : r1 = .fz (.int i) := intOf_some e3
    have e4' : r2 = .fz (.int j) := intOf_some e4
    subst e3' e4'
    refine ⟨F, env, A, env1, _, e1, fun v F1 H1 A1 f1 o1 n1 => ⟨F1, env1, A1, env2, _, e2, fun u F2 H2 A2 f2 o2 n2 => ?_⟩⟩
    cases (show Rp X.K F1 v (.int i) from o1)
    cases (show Rp X.K F2 u (.int j) from o2)
    exact ⟨i, j, rfl, hb, k _ F2 H2 A2 (f1.trans f2) (it_range i (j - i).toNat)⟩
  · cases em
end

/-! ### targets -/
abbrev MG := PyData → MEnv → Option MEnv
def gSlot (i : Nat) : MG := fun d env => (env[i]?).bind fun x => if x.lock = true then none else some (env.set i (.fz d))
/-- the same slots but those of is -/
def Off (is : List Nat) (σ σ' : L2.St) : Prop := σ'.length = σ.length ∧ ∀ j, j ∉ is → σ'[j]? = σ[j]?
theorem Off.refl (is : List Nat) (σ : L2.St) : Off is σ σ := ⟨rfl, fun _ _ => rfl⟩
theorem Off.set {i : Nat} {σ : L2.St} {x : Option V} : Off [i] σ (σ.set i x) := ⟨List.length_set, fun j hj => List.getElem?_set_ne fun z => hj (by rw [z]; exact List.mem_cons_self)⟩
theorem Off.trans {is js : List Nat} {σ σ1 σ2 : L2.St} (h : Off is σ σ1) (g : Off js σ1 σ2) : Off (is ++ js) σ σ2 := ⟨g.1.trans h.1, fun j hj => (g.2 j fun z => hj (List.mem_append_right _ z)).trans (h.2 j fun z => hj (List.mem_append_left _ z))⟩
theorem Off.mono {is js : List Nat} {σ σ1 : L2.St} (h : Off is σ σ1) (m : ∀ j ∈ is, j ∈ js) : Off js σ σ1 := ⟨h.1, fun j hj => h.2 j fun z => hj (m j z)⟩
/-- what a target makes of a frozen value -/
def tG (K : PySem.W.Frag) (is : List Nat) (g : MG) : TG := fun v σ H Q => ∃ F env d, Abs K F H σ env ∧ Rp K F v d ∧ ∃ env', g d env = some env' ∧ ∀ σ' F' H', Abs K F' H' σ' env' → Frm F H σ env F' H' σ' env' → Off is σ σ' → Q σ' H'
section
variable {K : PySem.W.Frag} {F H : Hp} {σ : L2.St} {env : MEnv}
theorem getSetV {σ : L2.St} {i j : Nat} {x : Option V} {y : Option V} (h : (σ.set i x)[j]? = some y) : (j = i ∧ y = x ∧ i < σ.length) ∨ (j ≠ i ∧ σ[j]? = some y) := by
  by_cases hj : j = i
  · subst hj
    by_cases hl : j < σ.length
    · rw [List.getElem?_set_self hl] at h
      exact .inl ⟨rfl, (Option.some.inj h).symm, hl⟩
    · rw [List.getElem?_eq_none (by rw [List.length_set]; omega)] at h
      cases h
  · rw [List.getElem?_set_ne (Ne.symm hj)] at h
    exact .inr ⟨hj, h⟩
/-- a slot is bound anew -/
theorem bind_slot (A : Abs K F H σ env) {i : Nat} {x y : SV} {v : V} (e : env[i]? = some x) (l : x.lock = false) (ly : y.lock = false) (hy : y.ok K F H (some (some v)))
    (hn : ∀ a, v = .ref a → (∃ d, y.isOwn = some d) → ¬ Owns σ env a) :
    Abs K F H (σ.set i (some v)) (env.set i y) ∧ ((∀ a, v = .ref a → (∃ d, y.isOwn = some d) → OwnsU σ env a ∨ H a = none) → Frm F H σ env F H (σ.set i (some v)) (env.set i y)) := by
  have hl : i < env.length := (List.getElem?_eq_some_iff.mp e).1
  have hlσ : i < σ.length := by rw [A.len]; exact hl
  have own1 : ∀ j b, OwnsAt (σ.set i (some v)) (env.set i y) j b → (j = i ∧ v = .ref b ∧ ∃ d, y.isOwn = some d) ∨ (j ≠ i ∧ OwnsAt σ env j b) := fun j b ⟨z, dz, e1, e2, e3⟩ => by
    rcases getSet e1 with ⟨rfl, rfl, _⟩ | ⟨hj, e1⟩
    · rw [List.getElem?_set_self hlσ] at e3
      exact .inl ⟨rfl, Option.some.inj (Option.some.inj e3), dz, e2⟩
    · rw [List.getElem?_set_ne (Ne.symm hj)] at e3
      exact .inr ⟨hj, z, dz, e1, e2, e3⟩
  refine ⟨⟨A.same, by rw [List.length_set, List.length_set]; exact A.len, fun j z ez => ?_, fun j l b h1 h2 => ?_⟩, fun hu => ⟨Same.refl _, fun a o h _ => h, fun a o h => ⟨o, h⟩, fun a o h => .inl h, fun b ⟨j, h⟩ => ?_, fun b ⟨j, z, h1, h2⟩ => ?_, fun j z e1 lz => ?_, by rw [List.length_set]⟩⟩
  · rcases getSet ez with ⟨rfl, rfl, _⟩ | ⟨hj, ez⟩
    · rw [List.getElem?_set_self hlσ]; exact hy
    · rw [List.getElem?_set_ne (Ne.symm hj)]; exact A.slot j z ez
  · rcases own1 j b h1 with ⟨ej, q1, q2⟩ | ⟨hj, g1⟩
    · rcases own1 l b h2 with ⟨el, _, _⟩ | ⟨hl', g2⟩
      · exact ej.trans el.symm
      · exact (hn b q1 q2 ⟨l, g2⟩).elim
    · rcases own1 l b h2 with ⟨el, q1, q2⟩ | ⟨hl', g2⟩
      · exact (hn b q1 q2 ⟨j, g1⟩).elim
      · exact A.inj j l b g1 g2
  · rcases own1 j b h with ⟨rfl, q1, q2⟩ | ⟨hj, h1⟩
    · rcases hu b q1 q2 with ⟨k, dk, g1, g2⟩ | z
      · exact .inl ⟨k, _, dk, g1, rfl, g2⟩
      · exact .inr z
    · exact .inl ⟨j, h1⟩
  · rcases getSet h1 with ⟨rfl, q, _⟩ | ⟨hj, h1⟩
    · rw [List.getElem?_set_self hlσ] at h2
      exact hu b (Option.some.inj (Option.some.inj h2)) ⟨z, by rw [← q]; rfl⟩
    · rw [List.getElem?_set_ne (Ne.symm hj)] at h2
      exact .inl ⟨j, z, h1, h2⟩
  · have hj : j ≠ i := fun q => by subst q; rw [e] at e1; cases e1; rw [l] at lz; cases lz
    exact ⟨by rw [List.getElem?_set_ne (Ne.symm hj)], z, by rw [List.getElem?_set_ne (Ne.symm hj)]; exact e1, lz⟩
theorem bind_frozen (A : Abs K F H σ env) {i : Nat} {x : SV} {v : V} {d : PyData} (e : env[i]? = some x) (l : x.lock = false) (r : Rp K F v d) :
    Abs K F H (σ.set i (some v)) (env.set i (.fz d)) ∧ Frm F H σ env F H (σ.set i (some v)) (env.set i (.fz d)) := by
  obtain ⟨h1, h2⟩ := bind_slot (y := .fz d) A e l rfl ⟨v, rfl, r⟩ fun a _ ⟨z, q⟩ => by cases q
  exact ⟨h1, h2 fun a _ ⟨z, q⟩ => by cases q⟩
theorem gSlot_some {i : Nat} {d : PyData} {env' : MEnv} (h : gSlot i d env = some env') : ∃ x, env[i]? = some x ∧ x.lock = false ∧ env' = env.set i (.fz d) := by
  obtain ⟨x, e, h⟩ := bind_some h
  split at h
  · cases h
  · rename_i hl
    exact ⟨x, e, by cases q : x.lock <;> simp_all, (Option.some.inj h).symm⟩
end
section
variable {X : Cx}
theorem pg_imp {e : Expr} {t t' : TG} (h : PG X e t) (i : ∀ v σ H Q, t' v σ H Q → t v σ H Q) : PG X e t' := ⟨fun pins s σ H v u Q I r q => h.run pins s σ H v u Q I r (i v σ H Q q)⟩
theorem pgs_imp {e : List Expr} {t t' : TGs} (h : PGs X e t) (i : ∀ v σ H Q, t' v σ H Q → t v σ H Q) : PGs X e t' := ⟨fun pins s σ H v u Q I r q => h.run pins s σ H v u Q I r (i v σ H Q q)⟩
theorem rg_slot {i : Nat} {e : Expr} (h : PG X e (gName i)) : PG X e (tG X.K [i] (gSlot i)) := by
  refine pg_imp h fun v σ H Q ⟨F, env, d, A, r, env', em, k⟩ => ?_
  obtain ⟨x, e, l, rfl⟩ := gSlot_some em
  obtain ⟨A', f'⟩ := bind_frozen A e l r
  exact k _ F H A' f' Off.set
abbrev MGs := List PyData → MEnv → Option MEnv
def gsNil : MGs := fun ds env => match ds with
  | [] => some env
  | _ => none
def gsCons (g : MG) (gs : MGs) : MGs := fun ds env => match ds with
  | d :: ds => (g d env).bind fun env1 => gs ds env1
  | [] => none
def tGs (K : PySem.W.Frag) (is : List Nat) (g : MGs) : TGs := fun vs σ H Q => ∃ F env ds, Abs K F H σ env ∧ RpAll K F vs ds ∧ ∃ env', g ds env = some env' ∧ ∀ σ' F' H', Abs K F' H' σ' env' → Frm F H σ env F' H' σ' env' → Off is σ σ' → Q σ' H'
theorem rgs_nil : PGs X [] (tGs X.K [] gsNil) := by
  refine pgs_imp pgs_nil fun vs σ H Q ⟨F, env, ds, A, r, env', em, k⟩ => ?_
  cases r with
  | nil => cases em; exact ⟨rfl, k σ F H A (Frm.refl _ _ _ _) (Off.refl _ _)⟩
  | cons _ _ => cases em
theorem rgs_cons {e : Expr} {es : List Expr} {is js : List Nat} {g : MG} {gs : MGs} (h1 : PG X e (tG X.K is g)) (h2 : PGs X es (tGs X.K js gs))
    (hs : (assignEach (e :: es) X.env).map (·.2) = assign e X.env :: (assignEach es X.env).map (·.2) := by rfl) : PGs X (e :: es) (tGs X.K (is ++ js) (gsCons g gs)) := by
  refine pgs_imp (pgs_cons h1 h2 hs) fun vs σ H Q ⟨F, env, ds, A, r, env', em, k⟩ => ?_
  cases r with
  | nil => cases em
  | cons r1 r2 =>
    obtain ⟨env1, e1, em⟩ := bind_some em
    exact ⟨_, _, rfl, F, env, _, A, r1, env1, e1, fun σ1 F1 H1 A1 f1 g1 => ⟨F1, env1, _, A1, r2.mono f1.sameF, env', em, fun σ2 F2 H2 A2 f2 g2 => k σ2 F2 H2 A2 (f1.trans f2) (g1.trans g2)⟩⟩
/-- (a, b, ..) = a tuple -/
def gUnp (n : Nat) (gs : MGs) : MG := fun d env => match d with
  | .tuple ds => if ds.length = n then gs ds env else none
  | _ => none
theorem rg_tup {es : List Expr} {k : Nat} {is : List Nat} {gs : MGs} {n : Nat} {pos : Pos} (hc : X.calm = true) (h : PGs X es (tGs X.K is gs)) (hn : (assignEach es X.env).length = n := by rfl) (hst : (assignEach es X.env).findIdx? (·.1) = none := by rfl) :
    PG X (.Tuple es k pos) (tG X.K is (gUnp n gs)) := by
  refine pg_imp (pg_tup hc h hn hst) fun v σ H Q ⟨F, env, d, A, r, env', em, kk⟩ => ?_
  unfold gUnp at em
  split at em
  · rename_i ds
    split at em
    · rename_i hl
      cases r with
      | tup q r => exact ⟨_, _, rfl, SqT.of (A.same _ _ q), by rw [r.length]; exact hl, F, env, ds, A, r, env', em, kk⟩
    · cases em
  · cases em
end

/-! ### list comprehensions -/
def wipeE (env : MEnv) : List Nat → MEnv
  | [] => env
  | i :: is => (wipeE env is).set i .unb
def backE (old env : MEnv) : List Nat → MEnv
  | [] => env
  | i :: is => (backE old env is).set i (old.getD i .unb)
def unlocked (env : MEnv) (is : List Nat) : Bool := is.all fun i => match env[i]? with
  | some x => !x.lock
  | none => false
def lcLoop (g : MG) (t : MT) (m : ME) (vs : List Nat) : List PyData → MEnv → List PyData → Option (MEnv × List PyData)
  | [], env, acc => some (env, acc)
  | d :: ds, env, acc => (g d env).bind fun env1 => (t env1).bind fun p => if p.2 = true then
      (m p.1).bind fun q => (q.2.fix q.1).bind fun s => if acc.length < lineN then lcLoop g t m vs ds (wipeE s.1 vs) (acc ++ [s.2]) else none
    else lcLoop g t m vs ds (wipeE p.1 vs) acc
def eLc (vs : List Nat) (g : MG) (mi : MI) (t : MT) (m : ME) : ME := fun env => (mi env).bind fun p => if unlocked p.1 vs = true then
    (lcLoop g t m vs p.2 (wipeE p.1 vs) []).bind fun q => some (backE p.1 q.1 vs, .own (.list q.2))
  else none
def mYes : MT := fun env => some (env, true)
end L3

/-! L3D: list comprehensions hold what eLc says. -/
namespace L3
open PySem PySem.Spec PyProof.Rows L2

section
variable {K : PySem.W.Frag} {F H F1 H1 F2 H2 : Hp} {σ σ2 : L2.St} {env env1 e2 : MEnv} {vs : List Nat}
theorem wipeE_length (env : MEnv) : ∀ vs : List Nat, (wipeE env vs).length = env.length
  | [] => rfl
  | v :: vs => by unfold wipeE; rw [List.length_set, wipeE_length env vs]
theorem wipeE_out {i : Nat} : ∀ {vs : List Nat}, i ∉ vs → (wipeE env vs)[i]? = env[i]?
  | [], _ => rfl
  | v :: vs, h => by
    unfold wipeE
    rw [List.getElem?_set_ne fun e => h (by rw [e]; exact List.mem_cons_self)]
    exact wipeE_out fun m => h (List.mem_cons_of_mem _ m)
theorem wipeE_in {i : Nat} : ∀ {vs : List Nat}, i ∈ vs → ∀ x, (wipeE env vs)[i]? = some x → x = .unb
  | v :: vs, h, x, e => by
    unfold wipeE at e
    rcases getSet e with ⟨_, q, _⟩ | ⟨hj, e⟩
    · exact q
    · rcases List.mem_cons.mp h with q | h
      · exact (hj q).elim
      · exact wipeE_in h x e
theorem backE_length (old env : MEnv) : ∀ vs : List Nat, (backE old env vs).length = env.length
  | [] => rfl
  | v :: vs => by unfold backE; rw [List.length_set, backE_length old env vs]
theorem backE_out {old : MEnv} {i : Nat} : ∀ {vs : List Nat}, i ∉ vs → (backE old env vs)[i]? = env[i]?
  | [], _ => rfl
  | v :: vs, h => by
    unfold backE
    rw [List.getElem?_set_ne fun e => h (by rw [e]; exact List.mem_cons_self)]
    exact backE_out fun m => h (List.mem_cons_of_mem _ m)
theorem backE_in {old : MEnv} {i : Nat} : ∀ {vs : List Nat}, i ∈ vs → ∀ x, (backE old env vs)[i]? = some x → old.length = env.length → old[i]? = some x
  | v :: vs, h, x, e, hl => by
    unfold backE at e
    rcases getSet e with ⟨q, q2, hb⟩ | ⟨hj, e⟩
    · subst q
      rw [backE_length] at hb
      rw [q2, List.getD_eq_getElem?_getD, List.getElem?_eq_getElem (by omega)]
      rfl
    · rcases List.mem_cons.mp h with q | h
      · exact (hj q).elim
      · exact backE_in h x e hl
theorem wipe_off {σ σ2 : L2.St} {is vs : List Nat} (h : Off is (wipe σ vs) σ2) (m : ∀ j ∈ is, j ∈ vs) : wipe σ2 vs = wipe σ vs := by
  refine List.ext_getElem? fun j => ?_
  by_cases hj : j ∈ vs
  · have non : ∀ τ : L2.St, (wipe τ vs)[j]? = if j < τ.length then some none else none := fun τ => by
      by_cases hl : j < τ.length
      · rw [if_pos hl]
        cases q : (wipe τ vs)[j]? with
        | none => rw [List.getElem?_eq_none_iff, wipe_length] at q; omega
        | some y =>
          cases y with
          | none => rfl
          | some v => exact ((wipe_some q).2 hj).elim
      · rw [if_neg hl, List.getElem?_eq_none (by rw [wipe_length]; omega)]
    have hl : σ2.length = σ.length := by rw [h.1, wipe_length]
    rw [non, non, hl]
  · rw [wipe_out hj, h.2 j fun z => hj (m j z)]

theorem abs_wipe (A : Abs K F H σ env) (vs : List Nat) : Abs K F H (wipe σ vs) (wipeE env vs) := by
  have own1 : ∀ j b, OwnsAt (wipe σ vs) (wipeE env vs) j b → OwnsAt σ env j b := fun j b ⟨x, d, h1, h2, h3⟩ => by
    by_cases hj : j ∈ vs
    · have := wipeE_in hj x h1
      subst this
      cases h2
    · rw [wipeE_out hj] at h1
      rw [wipe_out hj] at h3
      exact ⟨x, d, h1, h2, h3⟩
  refine ⟨A.same, by rw [wipe_length, wipeE_length]; exact A.len, fun j x e => ?_, fun i j a h1 h2 => A.inj i j a (own1 i a h1) (own1 j a h2)⟩
  by_cases hj : j ∈ vs
  · have := wipeE_in hj x e
    subst this
    trivial
  · rw [wipeE_out hj] at e
    rw [wipe_out hj]
    exact A.slot j x e
/-- a block's turn ends: its names are forgotten -/
theorem frm_wipe (f : Frm F1 H1 (wipe σ vs) (wipeE env vs) F H σ2 e2) (hw : wipe σ2 vs = wipe σ vs) : Frm F1 H1 (wipe σ vs) (wipeE env vs) F H (wipe σ vs) (wipeE e2 vs) := by
  have out : ∀ j, j ∉ vs → (wipe σ vs)[j]? = σ2[j]? := fun j hj => by rw [← hw, wipe_out hj]
  refine ⟨f.sameF, f.keep, f.there, f.new, fun a ⟨j, x, d, h1, h2, h3⟩ => ?_, fun a ⟨j, d, h1, h3⟩ => ?_, fun j x e l => ?_, by rw [wipeE_length]; exact f.len⟩
  · by_cases hj : j ∈ vs
    · have := wipeE_in hj x h1
      subst this
      cases h2
    · rw [wipeE_out hj] at h1
      rw [out j hj] at h3
      exact f.own a ⟨j, x, d, h1, h2, h3⟩
  · by_cases hj : j ∈ vs
    · cases wipeE_in hj _ h1
    · rw [wipeE_out hj] at h1
      rw [out j hj] at h3
      exact f.ownU a ⟨j, d, h1, h3⟩
  · have hj : j ∉ vs := fun hj => by
      have := wipeE_in hj x e
      subst this
      cases l
    obtain ⟨_, x', h1, h2⟩ := f.lock j x e l
    exact ⟨rfl, x', by rw [wipeE_out hj]; exact h1, h2⟩
/-- behind the block: its names are what they were -/
theorem block_back (A1 : Abs K F1 H1 σ env1) (hu : unlocked env1 vs = true) (A : Abs K F H (wipe σ vs) env) (f : Frm F1 H1 (wipe σ vs) (wipeE env1 vs) F H (wipe σ vs) env) :
    Abs K F H σ (backE env1 env vs) ∧ Frm F1 H1 σ env1 F H σ (backE env1 env vs) := by
  have hl : env1.length = env.length := by rw [f.len, wipeE_length]
  have un : ∀ j ∈ vs, ∀ x, env1[j]? = some x → x.lock = false := fun j hj x e => by
    unfold unlocked at hu
    rw [List.all_eq_true] at hu
    have := hu j hj
    rw [e] at this
    simpa using this
  have notW : ∀ j a, j ∈ vs → OwnsAt σ env1 j a → ¬ Owns (wipe σ vs) (wipeE env1 vs) a := fun j a hj h ⟨i, x, d, h1, h2, h3⟩ => by
    have hi : i ∉ vs := fun hi => by
      have := wipeE_in hi x h1
      subst this
      cases h2
    rw [wipeE_out hi] at h1
    rw [wipe_out hi] at h3
    exact hi (A1.inj i j a ⟨x, d, h1, h2, h3⟩ h ▸ hj)
  have wOwn : ∀ a, Owns (wipe σ vs) (wipeE env1 vs) a → Owns σ env1 a := fun a ⟨i, x, d, h1, h2, h3⟩ => by
    have hi : i ∉ vs := fun hi => by
      have := wipeE_in hi x h1
      subst this
      cases h2
    rw [wipeE_out hi] at h1
    rw [wipe_out hi] at h3
    exact ⟨i, x, d, h1, h2, h3⟩
  have case1 : ∀ j a, OwnsAt σ (backE env1 env vs) j a → (j ∈ vs ∧ OwnsAt σ env1 j a) ∨ (j ∉ vs ∧ OwnsAt (wipe σ vs) env j a) := fun j a ⟨x, d, h1, h2, h3⟩ => by
    by_cases hj : j ∈ vs
    · exact .inl ⟨hj, x, d, backE_in hj x h1 hl, h2, h3⟩
    · rw [backE_out hj] at h1
      exact .inr ⟨hj, x, d, h1, h2, by rw [wipe_out hj]; exact h3⟩
  have there1 : ∀ j a, OwnsAt σ env1 j a → ∃ o, H1 a = some o := fun j a h => (A1.ownsF ⟨j, h⟩).2
  refine ⟨⟨A.same, by rw [backE_length, ← A.len, wipe_length], fun j x e => ?_, fun i j a h1 h2 => ?_⟩, ⟨f.sameF, fun a o h n => f.keep a o h fun z => n (wOwn a z), f.there, fun a o h => ?_, fun a ⟨j, h⟩ => ?_, fun a ⟨j, d, h1, h3⟩ => ?_, fun j x e l => ?_, by rw [backE_length, hl]⟩⟩
  · by_cases hj : j ∈ vs
    · have e' := backE_in hj x e hl
      have h := A1.slot j x e'
      have own : ∀ d, x.isOwn = some d → (∃ a, σ[j]? = some (some (.ref a)) ∧ F1 a = none ∧ OwnC K F1 H1 a d) → ∃ a, σ[j]? = some (some (.ref a)) ∧ F a = none ∧ OwnC K F H a d := fun d o ⟨a, q, fa, c⟩ => by
        have nw := notW j a hj ⟨x, d, e', o, q⟩
        refine ⟨a, q, ?_, c.keep f.sameF fun u hu => f.keep a u hu nw⟩
        cases z : F a with
        | none => rfl
        | some u =>
          rcases f.new a u z with z | z | z
          · rw [fa] at z; cases z
          · exact (c.lo z).elim
          · exact (nw z).elim
      cases x with
      | unb => trivial
      | fz d => obtain ⟨v, q, r⟩ := h; exact ⟨v, q, r.mono f.sameF⟩
      | rfz d => obtain ⟨v, q, r⟩ := h; exact ⟨v, q, r.mono f.sameF⟩
      | own d => exact own d rfl h
      | ref d => exact own d rfl h
    · rw [backE_out hj] at e
      have := A.slot j x e
      rw [wipe_out hj] at this
      exact this
  · rcases case1 i a h1 with ⟨hi, g1⟩ | ⟨hi, g1⟩
    · rcases case1 j a h2 with ⟨hj, g2⟩ | ⟨hj, g2⟩
      · exact A1.inj i j a g1 g2
      · rcases f.own a ⟨j, g2⟩ with z | z
        · exact (notW i a hi g1 z).elim
        · obtain ⟨o, ho⟩ := there1 i a g1
          rw [ho] at z; cases z
    · rcases case1 j a h2 with ⟨hj, g2⟩ | ⟨hj, g2⟩
      · rcases f.own a ⟨i, g1⟩ with z | z
        · exact (notW j a hj g2 z).elim
        · obtain ⟨o, ho⟩ := there1 j a g2
          rw [ho] at z; cases z
      · exact A.inj i j a g1 g2
  · rcases f.new a o h with z | z | z
    · exact .inl z
    · exact .inr (.inl z)
    · exact .inr (.inr (wOwn a z))
  · rcases case1 j a h with ⟨hj, g⟩ | ⟨hj, g⟩
    · exact .inl ⟨j, g⟩
    · rcases f.own a ⟨j, g⟩ with z | z
      · exact .inl (wOwn a z)
      · exact .inr z
  · by_cases hj : j ∈ vs
    · exact .inl ⟨j, d, backE_in hj _ h1 hl, h3⟩
    · rw [backE_out hj] at h1
      rcases f.ownU a ⟨j, d, h1, by rw [wipe_out hj]; exact h3⟩ with ⟨i, d', g1, g3⟩ | z
      · have hi : i ∉ vs := fun hi => by cases wipeE_in hi _ g1
        rw [wipeE_out hi] at g1
        rw [wipe_out hi] at g3
        exact .inl ⟨i, d', g1, g3⟩
      · exact .inr z
  · have hj : j ∉ vs := fun hj => by rw [un j hj x e] at l; cases l
    obtain ⟨_, x', h1, h2⟩ := f.lock j x (by rw [wipeE_out hj]; exact e) l
    exact ⟨rfl, x', by rw [backE_out hj]; exact h1, h2⟩
end

section
variable {K : PySem.W.Frag} {F H F1 H1 : Hp} {σ σ1 : L2.St} {env env1 : MEnv}
theorem owns_wipe {vs : List Nat} {a : Addr} (h : Owns (wipe σ vs) (wipeE env vs) a) : Owns σ env a := by
  obtain ⟨i, x, d, h1, h2, h3⟩ := h
  have hi : i ∉ vs := fun hi => by
    have := wipeE_in hi x h1
    subst this
    cases h2
  rw [wipeE_out hi] at h1
  rw [wipe_out hi] at h3
  exact ⟨i, x, d, h1, h2, h3⟩
/-- what nobody owns and nothing frozen knows changes -/
theorem abs_other {a : Addr} {o : HO} (A : Abs K F H σ env) (fa : F a = none) (n : ¬ Owns σ env a) : Abs K F (upd H a o) σ env := by
  refine ⟨fun b u q => by rw [upd_ne (ne_of_none q fa)]; exact A.same b u q, A.len, fun j x e => ?_, A.inj⟩
  have h := A.slot j x e
  have own : ∀ d, x.isOwn = some d → (∃ b, σ[j]? = some (some (.ref b)) ∧ F b = none ∧ OwnC K F H b d) → ∃ b, σ[j]? = some (some (.ref b)) ∧ F b = none ∧ OwnC K F (upd H a o) b d := fun d hd ⟨b, q, f, c⟩ => by
    have hb : b ≠ a := fun z => by subst z; exact n ⟨j, x, d, e, hd, q⟩
    exact ⟨b, q, f, c.keep (Same.refl _) fun u hu => by rw [upd_ne hb]; exact hu⟩
  cases x with
  | unb => trivial
  | fz d => exact h
  | rfz d => exact h
  | own d => exact own d rfl h
  | ref d => exact own d rfl h
theorem frm_other {a : Addr} {o : HO} (f : Frm F1 H1 σ1 env1 F H σ env) (h1 : H1 a = none) : Frm F1 H1 σ1 env1 F (upd H a o) σ env := by
  refine ⟨f.sameF, fun b u q n => by rw [upd_ne (ne_of_none q h1)]; exact f.keep b u q n, fun b u q => by rw [upd_ne (ne_of_none q h1)]; exact f.there b u q, f.new, f.own, f.ownU, f.lock, f.len⟩
theorem RV.isNew.fwd {r : RV} {v : V} (h : r.isNew H1 v) (t : ∀ a o, H a = some o → ∃ o', H1 a = some o') : r.isNew H v := by
  cases r with
  | fz d => trivial
  | plc i => trivial
  | own d =>
    obtain ⟨a, e, n⟩ := h
    refine ⟨a, e, ?_⟩
    cases q : H a with
    | none => rfl
    | some u =>
      obtain ⟨o, h1⟩ := t a u q
      rw [n] at h1; cases h1
end

section
variable {X : Cx}
theorem lc_core1 {K : PySem.W.Frag} {vs is : List Nat} {g : MG} {t : MT} {m : ME} (hi : ∀ j ∈ is, j ∈ vs) {σ : L2.St} {F1 H1 : Hp} {env1 env2 : MEnv} {J : It} {ds accE : List PyData} {Q : VK} {D : Addr} (A1 : Abs K F1 H1 σ env1) (it : ItOk K J F1 ds) (hun : unlocked env1 vs = true)
    (e2 : lcLoop g t m vs ds (wipeE env1 vs) [] = some (env2, accE)) (hD : H1 D = none)
    (k : ∀ F' H', Abs K F' H' σ (backE env1 env2 vs) → Frm F1 H1 σ env1 F' H' σ (backE env1 env2 vs) → (RV.own (.list accE)).ok K F' H' σ (backE env1 env2 vs) (.ref D) → Q (.ref D) H') :
    ∃ W : Nat → Nat → Hp → Prop, (∃ mm, W 0 mm (upd H1 D (.lst []))) ∧ ∀ i mm H, W i mm H → (J.stop i H ∧ Q (.ref D) H) ∨ (J.go i H ∧ ∃ Nx : Hp → Prop, (∀ H', Nx H' → ∃ m', m' < mm ∧ W (i + 1) m' H') ∧ ∀ x H', J.yld i H x H' →
      tG K is g x (wipe σ vs) H' fun σ2 H2 => wipe σ2 vs = wipe σ vs ∧ tT K t σ2 H2 fun b H3 => if b = true then tE K m σ2 H3 fun y H4 => ∃ acc, H4 D = some (.lst acc) ∧ acc.length < sizeLine ∧ Nx (upd H4 D (.lst (acc ++ [y]))) else Nx H3) := by
  have A0 : Abs K F1 H1 (wipe σ vs) (wipeE env1 vs) := abs_wipe A1 vs
  have fD : F1 D = none := A1.same.free hD
  have sD : Same H1 (upd H1 D (.lst [])) := fun b o q => by rw [upd_ne (ne_of_none q hD)]; exact q
  obtain ⟨A0', f0'⟩ := grow A0 (Same.refl F1) sD (A1.same.trans sD) fun _ _ h => .inl h
  have nD0 : ¬ Owns (wipe σ vs) (wipeE env1 vs) D := fun z => by
    obtain ⟨_, o, ho⟩ := A0.ownsF z
    rw [hD] at ho; cases ho
  refine ⟨fun i mm H' => mm = ds.length - i ∧ i ≤ ds.length ∧ ∃ (F' : Hp) (e' : MEnv) (acc : List PyData) (xs : List V), Abs K F' H' (wipe σ vs) e' ∧ Frm F1 H1 (wipe σ vs) (wipeE env1 vs) F' H' (wipe σ vs) e' ∧
    H' D = some (.lst xs) ∧ F' D = none ∧ RpAll K F' xs acc ∧ ¬ Owns (wipe σ vs) e' D ∧ lcLoop g t m vs (ds.drop i) e' acc = some (env2, accE), ⟨ds.length, by omega, Nat.zero_le _, F1, wipeE env1 vs, [], [], A0', f0', upd_same, fD, .nil, nD0, e2⟩, ?_⟩
  rintro i mm H' ⟨rfl, hle, F', e', acc, xs, A', f', hx, fx, rx, nx, el⟩
  have sF1 : Same F1 H' := f'.sameF.trans A'.same
  by_cases hlt : i < ds.length
  · have hd : ds[i]? = some ds[i] := List.getElem?_eq_getElem hlt
    have edrop : ds.drop i = ds[i] :: ds.drop (i + 1) := List.drop_eq_getElem_cons hlt
    rw [edrop] at el
    obtain ⟨ea, g1, el⟩ := bind_some el
    obtain ⟨⟨eb, b⟩, g2, el⟩ := bind_some el
    refine .inr ⟨it.go i H' sF1 hlt, fun H3 => ∃ (F' : Hp) (e' : MEnv) (acc : List PyData) (xs : List V), Abs K F' H3 (wipe σ vs) e' ∧ Frm F1 H1 (wipe σ vs) (wipeE env1 vs) F' H3 (wipe σ vs) e' ∧
      H3 D = some (.lst xs) ∧ F' D = none ∧ RpAll K F' xs acc ∧ ¬ Owns (wipe σ vs) e' D ∧ lcLoop g t m vs (ds.drop (i + 1)) e' acc = some (env2, accE), fun H3 q => ⟨ds.length - (i + 1), by omega, rfl, hlt, q⟩, fun x H3 hy => ?_⟩
    obtain ⟨G, sG, sH, sGH, nG, rG⟩ := it.yld i H' F' x H3 ds[i] f'.sameF A'.same hy hd
    obtain ⟨A3, f3⟩ := grow A' sG sH sGH nG
    have keepD : ∀ {F4 H4 : Hp} {σ4 : L2.St} {e4 : MEnv}, Frm F' H' (wipe σ vs) e' F4 H4 σ4 e4 → H4 D = some (.lst xs) ∧ F4 D = none ∧ RpAll K F4 xs acc ∧ ¬ Owns σ4 e4 D := fun {F4 H4 σ4 e4} ff => by
      refine ⟨ff.keep D _ hx nx, ?_, rx.mono ff.sameF, fun z => ?_⟩
      · cases q : F4 D with
        | none => rfl
        | some u =>
          rcases ff.new D u q with z | z | z
          · rw [fx] at z; cases z
          · exact (z.lst hx).elim
          · exact (nx z).elim
      · rcases ff.own D z with z | z
        · exact nx z
        · rw [hx] at z; cases z
    refine ⟨G, e', ds[i], A3, rG, ea, g1, fun σ4 F4 H4 A4 f4 o4 => ⟨wipe_off o4 hi, F4, ea, A4, eb, b, g2, fun F5 H5 A5 f5 => ?_⟩⟩
    have hw := wipe_off o4 hi
    have ff5 := (f3.trans f4).trans f5
    cases b with
    | false =>
      refine ite2 (fun z => by cases z) fun _ => ?_
      have el' : lcLoop g t m vs (ds.drop (i + 1)) (wipeE eb vs) acc = some (env2, accE) := el
      obtain ⟨d1, d2, d3, d4⟩ := keepD ff5
      have A6 := abs_wipe A5 vs
      rw [hw] at A6
      exact ⟨F5, wipeE eb vs, acc, xs, A6, frm_wipe (f'.trans ff5) hw, d1, d2, d3, fun z => d4 (owns_wipe (by rw [hw]; exact z)), el'⟩
    | true =>
      refine ite2 (fun _ => ?_) fun z => (z rfl).elim
      have el' : ((m eb).bind fun q => (q.2.fix q.1).bind fun s => if acc.length < lineN then lcLoop g t m vs (ds.drop (i + 1)) (wipeE s.1 vs) (acc ++ [s.2]) else none) = some (env2, accE) := el
      obtain ⟨⟨ec, r⟩, g3, el'⟩ := bind_some el'
      obtain ⟨⟨ed, d'⟩, g4, el'⟩ := bind_some el'
      split at el'
      case isFalse => cases el'
      rename_i hz
      refine ⟨F5, eb, A5, ec, r, g3, fun y F6 H6 A6 f6 o6 n6 => ?_⟩
      have ff6 := ff5.trans f6
      obtain ⟨F7, A7, f7, r7, s7⟩ := fix_one A6 ff6 o6 (n6.fwd ff5.there) g4
      obtain ⟨d1, d2, d3, d4⟩ := keepD f7
      have hlen : xs.length < sizeLine := by rw [d3.length, ← lineN_eq]; exact hz
      refine ⟨xs, d1, hlen, ?_⟩
      have A8 := abs_wipe (abs_other (o := .lst (xs ++ [y])) A7 d2 d4) vs
      rw [hw] at A8
      refine ⟨F7, wipeE ed vs, acc ++ [d'], xs ++ [y], A8, frm_other (frm_wipe (f'.trans f7) hw) hD, upd_same, d2, d3.append (.cons r7 .nil), fun z => d4 (owns_wipe (by rw [hw]; exact z)), el'⟩
  · have ei : i = ds.length := by omega
    subst ei
    rw [List.drop_length] at el
    cases el
    obtain ⟨A9, f9⟩ := block_back A1 hun A' f'
    refine .inl ⟨it.stop H' sF1, k F' H' A9 f9 ⟨D, rfl, fx, ⟨xs, hx, rx⟩, fun zz => ?_⟩⟩
    rcases f9.own D zz with z | z
    · obtain ⟨_, o, ho⟩ := A1.ownsF z
      rw [hD] at ho; cases ho
    · obtain ⟨j, x, d, h1, h2, h3⟩ := zz
      by_cases hj : j ∈ vs
      · have e9 := backE_in hj x h1 (by rw [f'.len, wipeE_length])
        obtain ⟨_, o, ho⟩ := A1.ownsF ⟨j, x, d, e9, h2, h3⟩
        rw [hD] at ho; cases ho
      · rw [backE_out hj] at h1
        exact nx ⟨j, x, d, h1, h2, by rw [wipe_out hj]; exact h3⟩
theorem lc_to {K : PySem.W.Frag} {vs is : List Nat} {g : MG} {mi : MI} {t : MT} {m : ME} (hi : ∀ j ∈ is, j ∈ vs) {σ : L2.St} {H : Hp} {Q : VK} (h : tE K (eLc vs g mi t m) σ H Q) :
    tLc (tIt K mi) (tG K is g) (tT K t) (tE K m) vs σ H Q := by
  obtain ⟨F, env, A, env', r, em, k⟩ := h
  obtain ⟨⟨env1, ds⟩, e1, em⟩ := bind_some em
  split at em
  case isFalse => cases em
  rename_i hun
  obtain ⟨⟨env2, accE⟩, e2, em⟩ := bind_some em
  cases em
  refine ⟨F, env, A, env1, ds, e1, fun J F1 H1 A1 f1 it D hD => lc_core1 hi A1 it hun e2 hD fun F' H' A9 f9 ok => k (.ref D) F' H' A9 (f1.trans f9) ok ⟨D, rfl, ?_⟩⟩
  cases q : H D with
  | none => rfl
  | some u =>
    obtain ⟨o, h1⟩ := f1.there D u q
    rw [hD] at h1; cases h1
theorem rts_yes {X : Cx} : PTs X [] (tT X.K mYes) := ⟨fun pins s σ H Q I h => pts_nil.run pins s σ H Q I (tT_done (b := true) h)⟩
theorem rts_one {X : Cx} {c : Expr} {t : MT} (h : PT X c (tT X.K t)) : PTs X [c] (tT X.K t) := pts_one h
theorem re_lc {elt tg iter : Expr} {ifs : List Expr} {scope : Scope} {own : List (Str × Nat)} {is : List Nat} {pos : Pos} {g : MG} {mi : MI} {t : MT} {m : ME} (hc : X.calm = true) (hN : X.N.Nodup) (hi : PI X tg iter (tIt X.K mi)) (ok : BlkOk X.N X.env.scope scope own) (hv : ∀ j ∈ is, j ∈ own.map (·.2))
    (hg : ∀ (s : Shared) (H : Hp) (C : Addr) (cl : List (Str × Addr)) (fp : List Addr), PG (X.blk s H scope (compEnvC scope cl C X.env) fp) tg (tG X.K is g)) (ht : ∀ (s : Shared) (H : Hp) (C : Addr) (cl : List (Str × Addr)) (fp : List Addr), PTs (X.blk s H scope (compEnvC scope cl C X.env) fp) ifs (tT X.K t))
    (he : ∀ (s : Shared) (H : Hp) (C : Addr) (cl : List (Str × Addr)) (fp : List Addr), PE (X.blk s H scope (compEnvC scope cl C X.env) fp) elt (tE X.K m)) (hs : ∀ x, foldedSetIterable iter X.env x = pure x := by intro _; rfl) :
    PE X (.ListComp elt [⟨tg, iter, ifs, 0⟩] scope pos) (tE X.K (eLc (own.map (·.2)) g mi t m)) :=
  pe_imp (pe_lc hc hN hi ok hg ht he hs) fun _ _ _ => lc_to hv
end
end L3

/-! L3E: statements, loops, calls of the text's own defs. -/
namespace L3
open PySem PySem.Spec PyProof.Rows L2

inductive Out where
  | nx (env : MEnv)
  | rt (r : RV) (env : MEnv)
  | bk (env : MEnv)
  | ct (env : MEnv)
abbrev MS := MEnv → Option Out
/-- what is handed back: frozen, or owned and new -/
def retOk (H : Hp) (σ : L2.St) (env : MEnv) (v : V) : RV → Prop
  | .fz _ => True
  | .own _ => ∃ a, v = .ref a ∧ (OwnsU σ env a ∨ H a = none)
  | .plc _ => False
def OutK (K : PySem.W.Frag) (F H : Hp) (σ : L2.St) (env : MEnv) (D : Ends) : Out → Prop
  | .nx e => ∀ σ' F' H', Abs K F' H' σ' e → Frm F H σ env F' H' σ' e → D.nx σ' H'
  | .bk e => ∀ σ' F' H', Abs K F' H' σ' e → Frm F H σ env F' H' σ' e → D.bk σ' H'
  | .ct e => ∀ σ' F' H', Abs K F' H' σ' e → Frm F H σ env F' H' σ' e → D.ct σ' H'
  | .rt r e => ∀ v σ' F' H', Abs K F' H' σ' e → Frm F H σ env F' H' σ' e → r.ok K F' H' σ' e v → retOk H σ env v r → D.rt v H'
def tS (K : PySem.W.Frag) (m : MS) : TS := fun D σ H => ∃ F env, Abs K F H σ env ∧ ∃ o, m env = some o ∧ OutK K F H σ env D o
section
variable {K : PySem.W.Frag} {F H F1 H1 : Hp} {σ σ1 : L2.St} {env env1 : MEnv} {D : Ends} {o : Out} {v : V} {r : RV}
theorem retOk.back (h : retOk H1 σ1 env1 v r) (f : Frm F H σ env F1 H1 σ1 env1) : retOk H σ env v r := by
  cases r with
  | fz d => trivial
  | plc i => exact h.elim
  | own d =>
    obtain ⟨a, e, z⟩ := h
    refine ⟨a, e, ?_⟩
    rcases z with z | z
    · exact f.ownU a z
    · refine .inr ?_
      cases q : H a with
      | none => rfl
      | some u =>
        obtain ⟨o, h1⟩ := f.there a u q
        rw [z] at h1; cases h1
theorem OutK.back (h : OutK K F H σ env D o) (f : Frm F H σ env F1 H1 σ1 env1) : OutK K F1 H1 σ1 env1 D o := by
  cases o with
  | nx e => exact fun σ' F' H' A' f' => h σ' F' H' A' (f.trans f')
  | bk e => exact fun σ' F' H' A' f' => h σ' F' H' A' (f.trans f')
  | ct e => exact fun σ' F' H' A' f' => h σ' F' H' A' (f.trans f')
  | rt r e => exact fun v σ' F' H' A' f' o' z => h v σ' F' H' A' (f.trans f') o' (z.back f)
end
theorem ps_imp {X : Cx} {s : Stmt} {t t' : TS} (h : PS X s t) (i : ∀ D σ H, t' D σ H → t D σ H) : PS X s t' := ⟨fun pins s σ H D I q => h.run pins s σ H D I (i D σ H q)⟩
theorem pss_imp {X : Cx} {s : List Stmt} {t t' : TS} (h : PSs X s t) (i : ∀ D σ H, t' D σ H → t D σ H) : PSs X s t' := ⟨fun pins s σ H D I q => h.run pins s σ H D I (i D σ H q)⟩

/-! ### small statements -/
def sSkip : MS := fun env => some (.nx env)
def sSeq (m n : MS) : MS := fun env => (m env).bind fun o => match o with
  | .nx e => n e
  | o => some o
def sExpr (m : ME) : MS := fun env => (m env).bind fun p => some (.nx p.1)
def sSet (i : Nat) (m : ME) : MS := fun env => (m env).bind fun p => (p.1[i]?).bind fun x => if x.lock = true then none else match p.2 with
  | .fz d => some (.nx (p.1.set i (.fz d)))
  | .own d => some (.nx (p.1.set i (.own d)))
  | .plc j => (p.1[j]?).bind fun y => y.view.bind fun d => some (.nx ((p.1.set j y.freeze).set i (.fz d)))
def sAsg (g : MG) (m : ME) : MS := fun env => (m env).bind fun p => match p.2 with
  | .fz d => (g d p.1).bind fun e => some (.nx e)
  | _ => none
def sRet (m : ME) : MS := fun env => (m env).bind fun p => match p.2 with
  | .fz d => some (.rt (.fz d) p.1)
  | .own d => some (.rt (.own d) p.1)
  | .plc i => (p.1[i]?).bind fun x => match x with
    | .own d => some (.rt (.own d) (p.1.set i .unb))
    | x => x.view.bind fun d => some (.rt (.fz d) (p.1.set i x.freeze))
def sRetN : MS := fun env => some (.rt (.fz .none) env)
def sIf (t : MT) (a b : MS) : MS := fun env => (t env).bind fun p => if p.2 = true then a p.1 else b p.1
def sBrk : MS := fun env => some (.bk env)
def sCnt : MS := fun env => some (.ct env)
section
variable {X : Cx} {st : Stmt} {rest : List Stmt} {m n : MS} {e : Expr} {me : ME} {mt : MT} {pos : Pos}
theorem rs_nil : PSs X [] (tS X.K sSkip) := pss_imp pss_nil fun D σ H ⟨F, env, A, o, em, k⟩ => by
  cases em
  exact k σ F H A (Frm.refl _ _ _ _)
theorem rs_cons (h1 : PS X st (tS X.K m)) (h2 : PSs X rest (tS X.K n)) : PSs X (st :: rest) (tS X.K (sSeq m n)) := pss_imp (pss_cons h1 h2) fun D σ H ⟨F, env, A, o, em, k⟩ => by
  obtain ⟨o1, e1, em⟩ := bind_some em
  refine ⟨F, env, A, o1, e1, ?_⟩
  cases o1 with
  | nx e => exact fun σ1 F1 H1 A1 f1 => ⟨F1, e, A1, o, em, k.back f1⟩
  | bk e => cases em; exact k
  | ct e => cases em; exact k
  | rt r e => cases em; exact k
theorem rs_one (h1 : PS X st (tS X.K m)) : PSs X [st] (tS X.K m) := pss_one h1
theorem rs_pass : PS X (.Pass pos) (tS X.K sSkip) := ps_imp ps_pass fun D σ H ⟨F, env, A, o, em, k⟩ => by
  cases em
  exact k σ F H A (Frm.refl _ _ _ _)
theorem rs_brk : PS X (.Break pos) (tS X.K sBrk) := ps_imp ps_break fun D σ H ⟨F, env, A, o, em, k⟩ => by
  cases em
  exact k σ F H A (Frm.refl _ _ _ _)
theorem rs_cnt : PS X (.Continue pos) (tS X.K sCnt) := ps_imp ps_continue fun D σ H ⟨F, env, A, o, em, k⟩ => by
  cases em
  exact k σ F H A (Frm.refl _ _ _ _)
theorem rs_expr (he : PE X e (tE X.K me)) (hs : swapsWith e none pos.line X.env = pure false := by rfl) : PS X (.Expr e pos) (tS X.K (sExpr me)) := ps_imp (ps_expr he hs) fun D σ H ⟨F, env, A, o, em, k⟩ => by
  obtain ⟨⟨env1, r⟩, e1, em⟩ := bind_some em
  cases em
  exact ⟨F, env, A, env1, r, e1, fun v F1 H1 A1 f1 _ _ => k σ F1 H1 A1 f1⟩
theorem rs_if {c : Expr} {a b : List Stmt} (hc : PT X c (tT X.K mt)) (ha : PSs X a (tS X.K m)) (hb : PSs X b (tS X.K n)) : PS X (.If c a b pos) (tS X.K (sIf mt m n)) := ps_imp (ps_if hc ha hb) fun D σ H ⟨F, env, A, o, em, k⟩ => by
  obtain ⟨⟨env1, b1⟩, e1, em⟩ := bind_some em
  refine ⟨F, env, A, env1, b1, e1, fun F1 H1 A1 f1 => ?_⟩
  cases b1 with
  | true => exact ⟨F1, env1, A1, o, em, k.back f1⟩
  | false => exact ⟨F1, env1, A1, o, em, k.back f1⟩
theorem rs_retN : PS X (.Return none pos) (tS X.K sRetN) := ps_imp ps_retN fun D σ H ⟨F, env, A, o, em, k⟩ => by
  cases em
  exact k .non σ F H A (Frm.refl _ _ _ _) (Rp.non) trivial
theorem ret_to {K : PySem.W.Frag} {D : Ends} {σ : L2.St} {H : Hp} (h : tS K (sRet me) D σ H) : tE K me σ H D.rt := by
  obtain ⟨F, env, A, o, em, k⟩ := h
  obtain ⟨⟨env1, r⟩, e1, em⟩ := bind_some em
  refine ⟨F, env, A, env1, r, e1, fun v F1 H1 A1 f1 o1 n1 => ?_⟩
  cases r with
  | fz d => cases em; exact k v σ F1 H1 A1 f1 o1 trivial
  | own d =>
    cases em
    obtain ⟨a, e, hn⟩ := n1
    exact k v σ F1 H1 A1 f1 o1 ⟨a, e, .inr hn⟩
  | plc i =>
    obtain ⟨x, ex, em⟩ := bind_some em
    have ex' : env1[i]? = some x := ex
    have o1' : σ[i]? = some (some v) := o1
    have frz : ∀ d, x.view = some d → o = .rt (.fz d) (env1.set i x.freeze) → D.rt v H1 := fun d ed eo => by
      subst eo
      obtain ⟨F2, u, hu, A2, f2, r2⟩ := freeze_slot A1 ex' ed
      rw [o1'] at hu
      cases hu
      exact k v σ F2 H1 A2 (f1.trans f2) r2 trivial
    cases x with
    | own d =>
      cases em
      obtain ⟨a, ha, fa, oc⟩ := A1.slot i _ ex'
      rw [o1'] at ha
      cases ha
      have own1 : ∀ j b, OwnsAt σ (env1.set i .unb) j b → OwnsAt σ env1 j b ∧ j ≠ i := fun j b ⟨y, dy, g1, g2, g3⟩ => by
        rcases getSet g1 with ⟨rfl, rfl, _⟩ | ⟨hj, g1⟩
        · cases g2
        · exact ⟨⟨y, dy, g1, g2, g3⟩, hj⟩
      have A2 : Abs K F1 H1 σ (env1.set i .unb) := ⟨A1.same, by rw [List.length_set]; exact A1.len, fun j y ey => by
        rcases getSet ey with ⟨rfl, rfl, _⟩ | ⟨hj, ey⟩
        · trivial
        · exact A1.slot j y ey, fun j l b h1 h2 => A1.inj j l b (own1 j b h1).1 (own1 l b h2).1⟩
      have f2 : Frm F1 H1 σ env1 F1 H1 σ (env1.set i .unb) := ⟨Same.refl _, fun _ _ h _ => h, fun _ o h => ⟨o, h⟩, fun _ _ h => .inl h, fun b ⟨j, h⟩ => .inl ⟨j, (own1 j b h).1⟩, fun b ⟨j, z, h1, h2⟩ => by
        rcases getSet h1 with ⟨_, q, _⟩ | ⟨hj, h1⟩
        · cases q
        · exact .inl ⟨j, z, h1, h2⟩, fun j y e1 l => ⟨rfl, y, by
        rw [List.getElem?_set_ne fun z => by subst z; rw [ex'] at e1; cases e1; cases l]; exact e1, l⟩, by rw [List.length_set]⟩
      refine k (.ref a) σ F1 H1 A2 (f1.trans f2) ⟨a, rfl, fa, oc, fun ⟨j, z⟩ => (own1 j a z).2 (A1.inj j i a (own1 j a z).1 ⟨_, d, ex', rfl, o1'⟩)⟩ ⟨a, rfl, f1.ownU a ⟨i, d, ex', o1'⟩⟩
    | unb => obtain ⟨d, ed, em⟩ := bind_some em; cases ed
    | fz d' => obtain ⟨d, ed, em⟩ := bind_some em; exact frz d ed (Option.some.inj em).symm
    | ref d' => obtain ⟨d, ed, em⟩ := bind_some em; exact frz d ed (Option.some.inj em).symm
    | rfz d' => obtain ⟨d, ed, em⟩ := bind_some em; exact frz d ed (Option.some.inj em).symm
theorem rs_ret (he : PE X e (tE X.K me)) : PS X (.Return (some e) pos) (tS X.K (sRet me)) := ps_imp (ps_ret he) fun _ _ _ => ret_to
theorem set_to {K : PySem.W.Frag} {i : Nat} {D : Ends} {σ : L2.St} {H : Hp} (h : tS K (sSet i me) D σ H) : tAsg (tE K me) (gName i) D σ H := by
  obtain ⟨F, env, A, o, em, k⟩ := h
  obtain ⟨⟨env1, r⟩, e1, em⟩ := bind_some em
  obtain ⟨x, ex, em⟩ := bind_some em
  split at em
  · cases em
  rename_i hl
  have hl : x.lock = false := by cases q : x.lock <;> simp_all
  refine ⟨F, env, A, env1, r, e1, fun v F1 H1 A1 f1 o1 n1 => ?_⟩
  show D.nx (σ.set i (some v)) H1
  cases r with
  | fz d =>
    cases em
    obtain ⟨A2, f2⟩ := bind_frozen A1 ex hl o1
    exact k _ F1 H1 A2 (f1.trans f2)
  | own d =>
    cases em
    obtain ⟨a, rfl, fa, oc, nw⟩ := o1
    obtain ⟨a', ea, hn⟩ := n1
    cases ea
    obtain ⟨A2, f2⟩ := bind_slot (y := .own d) A1 ex hl rfl ⟨a, rfl, fa, oc⟩ fun b eb _ => by cases eb; exact nw
    have hH : ∀ b, V.ref a = .ref b → H b = none := fun b eb => by cases eb; exact hn
    refine k _ F1 H1 A2 ⟨f1.sameF, f1.keep, f1.there, f1.new, fun b ⟨j, y, dy, g1, g2, g3⟩ => ?_, fun b ⟨j, dy, g1, g3⟩ => ?_, fun j y g1 l => ?_, by rw [List.length_set]; exact f1.len⟩
    · rcases getSet g1 with ⟨rfl, rfl, hl'⟩ | ⟨hj, g1⟩
      · rw [List.getElem?_set_self (by rw [A1.len]; exact hl')] at g3
        exact .inr (hH b (Option.some.inj (Option.some.inj g3)))
      · rw [List.getElem?_set_ne (Ne.symm hj)] at g3
        exact f1.own b ⟨j, y, dy, g1, g2, g3⟩
    · rcases getSet g1 with ⟨rfl, _, hl'⟩ | ⟨hj, g1⟩
      · rw [List.getElem?_set_self (by rw [A1.len]; exact hl')] at g3
        exact .inr (hH b (Option.some.inj (Option.some.inj g3)))
      · rw [List.getElem?_set_ne (Ne.symm hj)] at g3
        exact f1.ownU b ⟨j, dy, g1, g3⟩
    · obtain ⟨q1, x1, q2, q3⟩ := f1.lock j y g1 l
      have hj : j ≠ i := fun z => by subst z; rw [ex] at q2; cases q2; rw [hl] at q3; cases q3
      exact ⟨by rw [List.getElem?_set_ne (Ne.symm hj)], x1, by rw [List.getElem?_set_ne (Ne.symm hj)]; exact q2, q3⟩
  | plc j =>
    obtain ⟨y, ey, em⟩ := bind_some em
    obtain ⟨d, ed, em⟩ := bind_some em
    cases em
    obtain ⟨F2, u, hu, A2, f2, r2⟩ := freeze_slot A1 ey ed
    have o1' : σ[j]? = some (some v) := o1
    rw [o1'] at hu
    cases hu
    have ex2 : ∃ x2, (env1.set j y.freeze)[i]? = some x2 ∧ x2.lock = false := by
      by_cases hj : i = j
      · subst hj
        rw [ex] at ey
        cases ey
        exact ⟨x.freeze, List.getElem?_set_self (List.getElem?_eq_some_iff.mp ex).1, by cases x <;> first | rfl | cases hl⟩
      · exact ⟨x, by rw [List.getElem?_set_ne (Ne.symm hj)]; exact ex, hl⟩
    obtain ⟨x2, ex2, hl2⟩ := ex2
    obtain ⟨A3, f3⟩ := bind_frozen A2 ex2 hl2 r2
    exact k _ F2 H1 A3 ((f1.trans f2).trans f3)
theorem rs_set {i : Nat} {x : Str} {pos' : Pos} (hN : X.N.Nodup) (hi : X.N[i]? = some x) (hx : Loc X.env.scope x) (he : PE X e (tE X.K me)) (hs : swapsWith e (some (.Name x pos')) pos.line X.env = pure false := by rfl) (hf : X.fn x = true ∨ X.env.scope.names.lookup x = some .local := by first | exact .inl rfl | exact .inr rfl | assumption) :
    PS X (.Assign [.Name x pos'] e pos) (tS X.K (sSet i me)) := ps_imp (ps_set hN hi hx he hs hf) fun _ _ _ => set_to
theorem asg_to {K : PySem.W.Frag} {is : List Nat} {g : MG} {D : Ends} {σ : L2.St} {H : Hp} (h : tS K (sAsg g me) D σ H) : tAsg (tE K me) (tG K is g) D σ H := by
  obtain ⟨F, env, A, o, em, k⟩ := h
  obtain ⟨⟨env1, r⟩, e1, em⟩ := bind_some em
  refine ⟨F, env, A, env1, r, e1, fun v F1 H1 A1 f1 o1 n1 => ?_⟩
  cases r with
  | fz d =>
    obtain ⟨e, e2, em⟩ := bind_some em
    cases em
    exact ⟨F1, env1, d, A1, o1, e, e2, fun σ2 F2 H2 A2 f2 _ => k σ2 F2 H2 A2 (f1.trans f2)⟩
  | own d => cases em
  | plc i => cases em
theorem rs_asg {tg : Expr} {is : List Nat} {g : MG} (he : PE X e (tE X.K me)) (hg : PG X tg (tG X.K is g)) (hs : swapsWithSole [tg] e pos.line X.env = pure false := by rfl) (hw : swappedStores [tg] e X.env = pure none := by rfl)
    (h1 : (assignEach [tg] X.env).map (·.2) = [assign tg X.env] := by rfl) : PS X (.Assign [tg] e pos) (tS X.K (sAsg g me)) := ps_imp (ps_asg he hg hs hw h1) fun _ _ _ => asg_to
/-- name = [..] on one line -/
theorem rs_setLc {i : Nat} {y : Str} {py : Pos} {elt tg iter : Expr} {ifs : List Expr} {scope : Scope} {own : List (Str × Nat)} {is : List Nat} {spos : Pos} {g : MG} {mi : MI} {t : MT} {m : ME} (hc : X.calm = true) (hN : X.N.Nodup) (hy : X.N[i]? = some y) (hyl : X.env.scope.names.lookup y = some .local)
    (hsw : swapsWith (.ListComp elt [⟨tg, iter, ifs, 0⟩] scope pos) (some (.Name y py)) spos.line X.env = pure true) (hi : PI X tg iter (tIt X.K mi)) (ok : BlkOk X.N X.env.scope scope own) (hv : ∀ j ∈ is, j ∈ own.map (·.2))
    (hg : ∀ (s : Shared) (H : Hp) (C : Addr) (cl : List (Str × Addr)) (fp : List Addr), PG (X.blk s H scope (compEnvC scope cl C X.env) fp) tg (tG X.K is g)) (ht : ∀ (s : Shared) (H : Hp) (C : Addr) (cl : List (Str × Addr)) (fp : List Addr), PTs (X.blk s H scope (compEnvC scope cl C X.env) fp) ifs (tT X.K t))
    (he : ∀ (s : Shared) (H : Hp) (C : Addr) (cl : List (Str × Addr)) (fp : List Addr), PE (X.blk s H scope (compEnvC scope cl C X.env) fp) elt (tE X.K m)) (hs : ∀ x, foldedSetIterable iter X.env x = pure x := by intro _; rfl) :
    PS X (.Assign [.Name y py] (.ListComp elt [⟨tg, iter, ifs, 0⟩] scope pos) spos) (tS X.K (sSet i (eLc (own.map (·.2)) g mi t m))) :=
  ps_imp (ps_setLc hc hN hy hyl hsw hi ok hg ht he hs) fun D σ H h => lc_to hv (set_to h)
end

/-! ### loops -/
def forLoop (g : MG) (body : MS) : List PyData → MEnv → Option Out
  | [], env => some (.nx env)
  | d :: ds, env => (g d env).bind fun e1 => (body e1).bind fun o => match o with
    | .nx e => forLoop g body ds e
    | .ct e => forLoop g body ds e
    | .bk e => some (.nx e)
    | .rt r e => some (.rt r e)
def sFor (g : MG) (mi : MI) (body : MS) : MS := fun env => (mi env).bind fun p => forLoop g body p.2 p.1
def whileLoop (t : MT) (body : MS) : Nat → MEnv → Option Out
  | 0, _ => none
  | n + 1, env => (t env).bind fun p => if p.2 = true then (body p.1).bind fun o => match o with
      | .nx e => whileLoop t body n e
      | .ct e => whileLoop t body n e
      | .bk e => some (.nx e)
      | .rt r e => some (.rt r e)
    else some (.nx p.1)
def sWhile (n : Nat) (t : MT) (body : MS) : MS := whileLoop t body n
section
variable {X : Cx} {m : MS} {mt : MT} {mi : MI} {g : MG} {is : List Nat} {pos : Pos}
theorem for_core {K : PySem.W.Frag} {D : Ends} {σ : L2.St} {F1 H1 : Hp} {env1 : MEnv} {J : It} {ds : List PyData} {o : Out} (A1 : Abs K F1 H1 σ env1) (it : ItOk K J F1 ds) (em : forLoop g m ds env1 = some o) (k : OutK K F1 H1 σ env1 D o) :
    ∃ W : Nat → Nat → L2.St → Hp → Prop, (∃ mm, W 0 mm σ H1) ∧ ∀ i mm σ H, W i mm σ H → (J.stop i H ∧ D.nx σ H) ∨
      (J.go i H ∧ ∃ N : L2.St → Hp → Prop, (∀ σ' H', N σ' H' → ∃ m', m' < mm ∧ W (i + 1) m' σ' H') ∧ ∀ x H', J.yld i H x H' → tG K is g x σ H' fun σ2 H2 => tS K m { D with nx := N, ct := N, bk := D.nx } σ2 H2) := by
  refine ⟨fun i mm σ' H' => mm = ds.length - i ∧ i ≤ ds.length ∧ ∃ F' e', Abs K F' H' σ' e' ∧ Frm F1 H1 σ env1 F' H' σ' e' ∧ forLoop g m (ds.drop i) e' = some o, ⟨ds.length, by omega, Nat.zero_le _, F1, env1, A1, Frm.refl _ _ _ _, em⟩, ?_⟩
  rintro i mm σ' H' ⟨rfl, hle, F', e', A', f', el⟩
  have k' := k.back f'
  have sF1 : Same F1 H' := f'.sameF.trans A'.same
  by_cases hlt : i < ds.length
  · have hd : ds[i]? = some ds[i] := List.getElem?_eq_getElem hlt
    rw [List.drop_eq_getElem_cons hlt] at el
    obtain ⟨ea, g1, el⟩ := bind_some el
    obtain ⟨ob, g2, el⟩ := bind_some el
    refine .inr ⟨it.go i H' sF1 hlt, fun σ3 H3 => ∃ F3 e3, Abs K F3 H3 σ3 e3 ∧ Frm F1 H1 σ env1 F3 H3 σ3 e3 ∧ forLoop g m (ds.drop (i + 1)) e3 = some o, fun σ3 H3 ⟨F3, e3, q⟩ => ⟨ds.length - (i + 1), by omega, rfl, hlt, F3, e3, q⟩, fun x H3 hy => ?_⟩
    obtain ⟨G, sG, sH, sGH, nG, rG⟩ := it.yld i H' F' x H3 ds[i] f'.sameF A'.same hy hd
    obtain ⟨A3, f3⟩ := grow A' sG sH sGH nG
    refine ⟨G, e', ds[i], A3, rG, ea, g1, fun σ4 F4 H4 A4 f4 _ => ⟨F4, ea, A4, ob, g2, ?_⟩⟩
    have ff := f3.trans f4
    cases ob with
    | nx e => exact fun σ5 F5 H5 A5 f5 => ⟨F5, e, A5, (f'.trans ff).trans f5, el⟩
    | ct e => exact fun σ5 F5 H5 A5 f5 => ⟨F5, e, A5, (f'.trans ff).trans f5, el⟩
    | bk e => cases el; exact fun σ5 F5 H5 A5 f5 => k' σ5 F5 H5 A5 (ff.trans f5)
    | rt r e => cases el; exact k'.back ff
  · have ei : i = ds.length := by omega
    subst ei
    rw [List.drop_length] at el
    cases el
    exact .inl ⟨it.stop H' sF1, k' σ' F' H' A' (Frm.refl _ _ _ _)⟩
theorem for_to {K : PySem.W.Frag} {D : Ends} {σ : L2.St} {H : Hp} (h : tS K (sFor g mi m) D σ H) : tFor (tIt K mi) (tG K is g) (tS K m) D σ H := by
  obtain ⟨F, env, A, o, em, k⟩ := h
  obtain ⟨⟨env1, ds⟩, e1, em⟩ := bind_some em
  exact ⟨F, env, A, env1, ds, e1, fun J F1 H1 A1 f1 it => for_core A1 it em (k.back f1)⟩
theorem rs_for {tg iter : Expr} {body : List Stmt} (hp : PassesOwn (model X.prog X.w) X.A X.env X.xe) (hc : X.calm = true) (hi : PI X tg iter (tIt X.K mi)) (hg : PG X tg (tG X.K is g)) (hb : PSs X body (tS X.K m))
    (hs : ∀ x, foldedSetIterable iter X.env x = pure x := by intro _; rfl) : PS X (.For tg iter body [] pos) (tS X.K (sFor g mi m)) := ps_imp (ps_for hp hc hi hg hb hs) fun _ _ _ => for_to
theorem while_to {K : PySem.W.Frag} {n : Nat} {D : Ends} {σ : L2.St} {H : Hp} (h : tS K (sWhile n mt m) D σ H) : tWhile (tT K mt) (tS K m) D σ H := by
  obtain ⟨F, env, A, o, em, k⟩ := h
  refine ⟨fun mm σ' H' => ∃ F' e', Abs K F' H' σ' e' ∧ Frm F H σ env F' H' σ' e' ∧ whileLoop mt m mm e' = some o, ⟨n, F, env, A, Frm.refl _ _ _ _, em⟩, ?_⟩
  rintro mm σ' H' ⟨F', e', A', f', el⟩
  have k' := k.back f'
  cases mm with
  | zero => cases el
  | succ mm =>
    obtain ⟨⟨ea, b⟩, g1, el⟩ := bind_some el
    refine ⟨F', e', A', ea, b, g1, fun F1 H1 A1 f1 => ?_⟩
    cases b with
    | false =>
      refine ite2 (fun z => by cases z) fun _ => ?_
      have el' : some (Out.nx ea) = some o := el
      cases el'
      exact k' σ' F1 H1 A1 f1
    | true =>
      refine ite2 (fun _ => ?_) fun z => (z rfl).elim
      have el' : ((m ea).bind fun o => match o with
        | .nx e => whileLoop mt m mm e
        | .ct e => whileLoop mt m mm e
        | .bk e => some (.nx e)
        | .rt r e => some (.rt r e)) = some o := el
      obtain ⟨ob, g2, el'⟩ := bind_some el'
      refine ⟨fun σ3 H3 => ∃ F3 e3, Abs K F3 H3 σ3 e3 ∧ Frm F H σ env F3 H3 σ3 e3 ∧ whileLoop mt m mm e3 = some o, fun σ3 H3 q => ⟨mm, Nat.lt_succ_self _, q⟩, F1, ea, A1, ob, g2, ?_⟩
      cases ob with
      | nx e => exact fun σ5 F5 H5 A5 f5 => ⟨F5, e, A5, (f'.trans f1).trans f5, el'⟩
      | ct e => exact fun σ5 F5 H5 A5 f5 => ⟨F5, e, A5, (f'.trans f1).trans f5, el'⟩
      | bk e => cases el'; exact fun σ5 F5 H5 A5 f5 => k' σ5 F5 H5 A5 (f1.trans f5)
      | rt r e => cases el'; exact k'.back f1
theorem rs_while {n : Nat} {c : Expr} {body : List Stmt} (hp : PassesOwn (model X.prog X.w) X.A X.env X.xe) (hc : PT X c (tT X.K mt)) (hb : PSs X body (tS X.K m)) : PS X (.While c body [] pos) (tS X.K (sWhile n mt m)) := ps_imp (ps_while hp hc hb) fun _ _ _ => while_to
end
end L3

/-! L3F: calls of the text's own defs; what changes an owned list. -/
namespace L3
open PySem PySem.Spec PyProof.Rows L2

/-! ### a def by data -/
abbrev CF := List SV → Option (List SV × RV)
def SV.plain : SV → Bool
  | .own _ => true
  | .fz _ => true
  | _ => false
def SV.enter : SV → SV
  | .own d => .ref d
  | x => x
/-- a parameter behind the body: x as it was handed in, y as it stands -/
def SV.exit (x y : SV) : Option SV := match x with
  | .own _ => match y with
    | .ref d => some (.own d)
    | .rfz d => some (.fz d)
    | _ => none
  | x => some x
def exitAll : List SV → MEnv → Option (List SV)
  | [], _ => some []
  | x :: xs, y :: ys => (x.exit y).bind fun z => (exitAll xs ys).bind fun zs => some (z :: zs)
  | _ :: _, [] => none
/-- n parameters, l slots in all -/
def runF (n l : Nat) (body : MS) : CF := fun as => if as.length = n ∧ as.all SV.plain = true ∧ n ≤ l then
    (body (as.map SV.enter ++ List.replicate (l - n) SV.unb)).bind fun o => match o with
      | .rt r e => (exitAll as e).bind fun bs => match r with
        | .plc _ => none
        | r => some (bs, r)
      | .nx e => (exitAll as e).bind fun bs => some (bs, .fz .none)
      | _ => none
  else none
def mst (vs : List V) : L2.St := vs.map some
/-- what a def promises that does as C says -/
def spOf (n : Nat) (C : CF) (K : PySem.W.Frag) : Sp := fun vs H Q _ => ∃ F as, vs.length = n ∧ as.all SV.plain = true ∧ Abs K F H (mst vs) as ∧ ∃ bs r, C as = some (bs, r) ∧
  ∀ v F' H', Abs K F' H' (mst vs) bs → Frm F H (mst vs) as F' H' (mst vs) bs → r.ok K F' H' (mst vs) bs v → r.isNew H v → Q v H'

theorem exitAll_length : ∀ {as : List SV} {e : MEnv} {bs : List SV}, exitAll as e = some bs → bs.length = as.length
  | [], _, bs, h => by cases h; rfl
  | x :: xs, y :: ys, bs, h => by
    obtain ⟨z, _, h⟩ := bind_some h
    obtain ⟨zs, h2, h⟩ := bind_some h
    cases h
    exact congrArg (· + 1) (exitAll_length h2)
  | _ :: _, [], _, h => by cases h
theorem exitAll_get : ∀ {as : List SV} {e : MEnv} {bs : List SV} {j : Nat} {x : SV}, exitAll as e = some bs → as[j]? = some x → ∃ y z, e[j]? = some y ∧ x.exit y = some z ∧ bs[j]? = some z
  | [], _, _, _, _, _, h => by simp at h
  | x :: xs, y :: ys, bs, j, u, h, hj => by
    obtain ⟨z, h1, h⟩ := bind_some h
    obtain ⟨zs, h2, h⟩ := bind_some h
    cases h
    cases j with
    | zero => simp at hj; subst hj; exact ⟨y, z, rfl, h1, rfl⟩
    | succ j =>
      obtain ⟨y', z', e1, e2, e3⟩ := exitAll_get (j := j) h2 (by simpa using hj)
      exact ⟨y', z', by simpa using e1, e2, by simpa using e3⟩
  | _ :: _, [], _, _, _, h, _ => by cases h

section
variable {K : PySem.W.Frag} {F H F' H' : Hp} {σ' : L2.St} {env' : MEnv} {vs : List V} {as bs : List SV} {N : List Str}
theorem plain_at (hp : as.all SV.plain = true) {j : Nat} {x : SV} (e : as[j]? = some x) : x.plain = true := by
  rw [List.all_eq_true] at hp
  exact hp x (List.mem_of_getElem? e)
theorem mst_get {j : Nat} {y : Option V} (e : (mst vs)[j]? = some y) : ∃ v, vs[j]? = some v ∧ y = some v := by
  unfold mst at e
  rw [List.getElem?_map] at e
  cases q : vs[j]? with
  | none => rw [q] at e; cases e
  | some v => rw [q] at e; exact ⟨v, rfl, (Option.some.inj e).symm⟩
/-- the slots at a def's entry -/
theorem start_get {j : Nat} (h : j < vs.length) : (start N vs)[j]? = (mst vs)[j]? := by
  unfold L2.start mst
  rw [List.getElem?_append_left (by simpa using h)]
theorem entry_get {j l n : Nat} {z : SV} (e : (as.map SV.enter ++ List.replicate (l - n) SV.unb)[j]? = some z) : (∃ x, as[j]? = some x ∧ z = x.enter) ∨ (as.length ≤ j ∧ z = .unb) := by
  by_cases h : j < as.length
  · rw [List.getElem?_append_left (by simpa using h), List.getElem?_map] at e
    rw [List.getElem?_eq_getElem h] at e ⊢
    exact .inl ⟨_, rfl, (Option.some.inj e).symm⟩
  · rw [List.getElem?_append_right (by simp; omega)] at e
    exact .inr ⟨by omega, (List.eq_of_mem_replicate (List.mem_of_getElem? e))⟩
theorem abs_entry {n : Nat} (A : Abs K F H (mst vs) as) (hp : as.all SV.plain = true) (hl : vs.length = n) (hN : n ≤ N.length) : Abs K F H (start N vs) (as.map SV.enter ++ List.replicate (N.length - n) SV.unb) ∧
    (∀ a, Owns (start N vs) (as.map SV.enter ++ List.replicate (N.length - n) SV.unb) a → Owns (mst vs) as a) ∧ (∀ a, ¬ OwnsU (start N vs) (as.map SV.enter ++ List.replicate (N.length - n) SV.unb) a) := by
  have hal : as.length = n := by rw [← A.len, ← hl]; simp [mst]
  have own1 : ∀ j a, OwnsAt (start N vs) (as.map SV.enter ++ List.replicate (N.length - n) SV.unb) j a → OwnsAt (mst vs) as j a := fun j a ⟨x, d, h1, h2, h3⟩ => by
    rcases entry_get h1 with ⟨y, h4, rfl⟩ | ⟨_, rfl⟩
    · have hj : j < vs.length := by rw [hl, ← hal]; exact (List.getElem?_eq_some_iff.mp h4).1
      rw [start_get hj] at h3
      refine ⟨y, d, h4, ?_, h3⟩
      cases y <;> first | exact h2 | (cases h2; done)
    · cases h2
  refine ⟨⟨A.same, by simp [L2.start, mst, hl, hal], fun j x e => ?_, fun i j a h1 h2 => A.inj i j a (own1 i a h1) (own1 j a h2)⟩, fun a ⟨j, h⟩ => ⟨j, own1 j a h⟩, fun a ⟨j, d, h1, _⟩ => ?_⟩
  · rcases entry_get e with ⟨y, h4, rfl⟩ | ⟨_, rfl⟩
    · have hj : j < vs.length := by rw [hl, ← hal]; exact (List.getElem?_eq_some_iff.mp h4).1
      rw [start_get hj]
      have := A.slot j y h4
      cases y <;> exact this
    · trivial
  · rcases entry_get h1 with ⟨y, h4, e⟩ | ⟨_, e⟩
    · have := plain_at hp h4
      cases y <;> first | (cases e; done) | (cases this; done)
    · cases e
/-- behind the body: the parameters as they go back -/
theorem abs_exit {n : Nat} (A : Abs K F H (mst vs) as) (hp : as.all SV.plain = true) (hl : vs.length = n) (hN : n ≤ N.length) (A' : Abs K F' H' σ' env')
    (f : Frm F H (start N vs) (as.map SV.enter ++ List.replicate (N.length - n) SV.unb) F' H' σ' env') (ex : exitAll as env' = some bs) :
    Abs K F' H' (mst vs) bs ∧ Frm F H (mst vs) as F' H' (mst vs) bs ∧ ∀ a, Owns (mst vs) bs a → Owns σ' env' a := by
  have hal : as.length = n := by rw [← A.len, ← hl]; simp [mst]
  obtain ⟨A0, o0, u0⟩ := abs_entry A hp hl hN
  have bl : bs.length = as.length := exitAll_length ex
  -- an owned parameter's slot
  have par : ∀ (j : Nat) (d : PyData), as[j]? = some (.own d) → σ'[j]? = (mst vs)[j]? ∧ ∃ y : SV, env'[j]? = some y ∧ ((∃ d', y = .ref d' ∧ bs[j]? = some (.own d')) ∨ ∃ d', y = .rfz d' ∧ bs[j]? = some (.fz d')) := fun j d e => by
    have hj : j < as.length := (List.getElem?_eq_some_iff.mp e).1
    have e0 : (as.map SV.enter ++ List.replicate (N.length - n) SV.unb)[j]? = some (.ref d) := by
      rw [List.getElem?_append_left (by simpa using hj), List.getElem?_map, e]
      rfl
    obtain ⟨q1, x', q2, q3⟩ := f.lock j _ e0 rfl
    rw [start_get (by omega)] at q1
    obtain ⟨y, z, g1, g2, g3⟩ := exitAll_get ex e
    refine ⟨q1, y, g1, ?_⟩
    cases y with
    | ref d' => cases g2; exact .inl ⟨d', rfl, g3⟩
    | rfz d' => cases g2; exact .inr ⟨d', rfl, g3⟩
    | unb => cases g2
    | fz _ => cases g2
    | own _ => cases g2
  have other : ∀ (j : Nat) (x : SV), as[j]? = some x → (∀ d, x ≠ .own d) → bs[j]? = some x := fun j x e n => by
    obtain ⟨y, z, g1, g2, g3⟩ := exitAll_get ex e
    cases x with
    | own d => exact (n d rfl).elim
    | unb => cases g2; exact g3
    | fz _ => cases g2; exact g3
    | ref _ => cases g2; exact g3
    | rfz _ => cases g2; exact g3
  have asAt : ∀ (j : Nat) (z : SV), bs[j]? = some z → ∃ x, as[j]? = some x := fun j z e => by
    have hj : j < as.length := by rw [← bl]; exact (List.getElem?_eq_some_iff.mp e).1
    exact ⟨as[j], List.getElem?_eq_getElem hj⟩
  have own1 : ∀ j a, OwnsAt (mst vs) bs j a → OwnsAt σ' env' j a ∧ ∃ d, as[j]? = some (.own d) := fun j a ⟨z, d, h1, h2, h3⟩ => by
    obtain ⟨x, hx⟩ := asAt j z h1
    have pl := plain_at hp hx
    cases x with
    | own d0 =>
      obtain ⟨q1, y, g1, g2⟩ := par j d0 hx
      rcases g2 with ⟨d', rfl, g3⟩ | ⟨d', rfl, g3⟩
      · exact ⟨⟨.ref d', d', g1, rfl, q1.trans h3⟩, d0, hx⟩
      · rw [h1] at g3; cases g3; cases h2
    | fz d0 =>
      rw [other j _ hx fun d q => by cases q] at h1
      cases h1
      cases h2
    | unb => cases pl
    | ref _ => cases pl
    | rfz _ => cases pl
  refine ⟨⟨A'.same, by rw [bl]; exact A.len, fun j z e => ?_, fun i j a h1 h2 => A'.inj i j a (own1 i a h1).1 (own1 j a h2).1⟩, ⟨f.sameF, fun a o h n => f.keep a o h fun z => n (o0 a z), f.there, fun a o h => ?_, fun a ⟨j, h⟩ => ?_, fun a ⟨j, d, h1, h3⟩ => ?_, fun j x e l => ?_, bl⟩, fun a ⟨j, h⟩ => ⟨j, (own1 j a h).1⟩⟩
  · obtain ⟨x, hx⟩ := asAt j z e
    have pl := plain_at hp hx
    cases x with
    | own d0 =>
      obtain ⟨q1, y, g1, g2⟩ := par j d0 hx
      have sl := A'.slot j y g1
      rw [q1] at sl
      rcases g2 with ⟨d', rfl, g3⟩ | ⟨d', rfl, g3⟩
      · rw [e] at g3; cases g3; exact sl
      · rw [e] at g3; cases g3; exact sl
    | fz d0 =>
      rw [other j _ hx fun d q => by cases q] at e
      cases e
      obtain ⟨v, q, r⟩ := A.slot j _ hx
      exact ⟨v, q, r.mono f.sameF⟩
    | unb => cases pl
    | ref _ => cases pl
    | rfz _ => cases pl
  · rcases f.new a o h with z | z | z
    · exact .inl z
    · exact .inr (.inl z)
    · exact .inr (.inr (o0 a z))
  · rcases f.own a ⟨j, (own1 j a h).1⟩ with z | z
    · exact .inl (o0 a z)
    · exact .inr z
  · obtain ⟨_, d0, hx⟩ := own1 j a ⟨.own d, d, h1, rfl, h3⟩
    exact .inl ⟨j, d0, hx, h3⟩
  · have := plain_at hp e
    cases x <;> first | (cases l; done) | (cases this; done)
end
section
variable {P : Program} {w : World} {K : PySem.W.Frag} {mg : Str → Option Value} {base : Heap}
/-! ### promises under no guard (repr wants to know that) -/
structure RoomG (k : Nat) (A : Around) : Prop where
  r : Room k A
  g : A.guards = some []
theorem RoomG.mono {j k : Nat} {A : Around} (h : RoomG k A) (l : j ≤ k) : RoomG j A := ⟨h.r.mono l, h.g⟩
theorem RoomG.deeper {k : Nat} {A : Around} (h : RoomG (k + 1) A) (env : Env) : RoomG k (A.deeper env) := ⟨h.r.deeper env, h.g⟩
theorem RoomG.units {k : Nat} {A : Around} (h : RoomG k A) : A.units + 64 < cLine := h.r.units
theorem RoomG.u65 {k : Nat} {A : Around} (h : RoomG k A) : A.units + 65 < cLine := by have := h.r.un; omega
structure FnOkG (P : Program) (w : World) (K : PySem.W.Frag) (mg : Str → Option Value) (base : Heap) (CX : CXT) (k : Nat) (f : Addr) (fd : FuncData) (ps : List Str) (sp : Sp) : Prop where
  len : ∀ vs H Q E, sp vs H Q E → vs.length = ps.length
  go : ∀ (A : Around) (o : List Env) (s : Shared) (H : Hp) (as : Args) (us : List Value) (vs : List V) (Q : VK) (E : XK), RoomG k A → Env0 P w K mg base A o s H → BindsTo s fd as (ps.zip us) → Vals vs us → sp vs H Q E →
    codeAny (model P w) A (.call (.ref f) as) (CR CX o P w H s Q E) s
theorem fnG_of {CX : CXT} {x qual : Str} {st : Stmt} {f : Addr} {fd : FuncData} {N ps : List Str} {k : Nat} {sp : Sp} (F : Fun K x qual st f fd) (S : FnScope N ps (defScope st)) (len : ∀ vs H Q E, sp vs H Q E → vs.length = ps.length)
    (hbody : ∀ (cdv : Value) (A : Around) (o : List Env) (s : Shared) (H : Hp) (vs : List V) (Q : VK) (E : XK), RoomG k (A.deeper (envOfC qual (defScope st) s.heap.objs.size f cdv)) → sp vs H Q E →
      ∃ t, PSs (cxOf CX P w K mg base N qual (defScope st) f cdv A o s H E) (defBody st) t ∧ t { nx := fun _ H' => Q .non H', rt := Q } (start N vs) H) : FnOkG P w K mg base CX (k + 1) f fd ps sp := by
  obtain ⟨c1, c2, c3, c4, c5, c6, cdv, c8, c9, rfl, found, hcode⟩ := F.ex
  constructor
  · exact len
  intro A o s H as us vs Q E hr en hbd rv hsp
  have hlen := len _ _ _ _ hsp
  have sees : K.In s.heap := en.mod.kin.keeps fun b ob q => (en.bs b ob q).1
  have noLim : s.heap.NoLimit := en.mod.nolimit.keeps fun b ob q => (en.bs b ob q).1
  have kinds : ∀ y ∈ ps.zip us, (defScope st).names.lookup y.1 = some .local ∨ ((defScope st).names.lookup y.1 = some .cell ∧ ((cellsFrom (s.heap.objs.size + 1) (defScope st).names []).lookup y.1).isSome = true) := by
    rintro ⟨n, v⟩ hy
    cases S.par n (List.of_mem_zip hy).1 with
    | inl q => exact .inl q
    | inr q => exact .inr ⟨q, PySem.W.cellsFrom_some _ _ _ (.inl q)⟩
  refine codeAny_call_function hr.r.depth (sees _ _ found) rfl S.co S.gen rfl (PySem.W.codeRec_of sees hcode) ?_
  refine hbd _ _ _ _ (wpAny_newFunctionEnv_cells S.kind kinds fun env he s1 inc => ?_)
  subst he
  refine ⟨noLim.keeps inc.toInCall.keep, codeAny_func ?_⟩
  obtain ⟨t, runs, met⟩ := hbody cdv A o s H vs Q E (hr.deeper _) hsp
  have I0 := inv_start (CX := CX) (E := E) (cd := cdv) (qual := qual) (f := f) S hr.r.hd en hlen rv inc
  refine wpAny_mono (runs.run [] s1 (start N vs) H _ I0 met) (fun fl s2 hs => ?_) fun e s2 hs => hs
  cases fl with
  | ret u =>
    obtain ⟨v, σ2, H2, J, ru, q⟩ := hs
    exact ⟨v, H2, J.os, J.bare, J.base, J.hok, ru, q⟩
  | next =>
    obtain ⟨σ2, H2, J, q⟩ := hs
    exact ⟨V.non, H2, J.os, J.bare, J.base, J.hok, rfl, q⟩
  | brk => exact (hs.elim fun _ h => h.elim fun _ h => h.2.elim)
  | cont => exact (hs.elim fun _ h => h.elim fun _ h => h.2.elim)
/-- THE RULE for a def that does as its body by data says -/
theorem fn_data {x qual : Str} {st : Stmt} {f : Addr} {fd : FuncData} {N ps : List Str} {k : Nat} {body : MS} (G : Fun K x qual st f fd) (S : FnScope N ps (defScope st)) (hN : ps.length ≤ N.length)
    (hb : ∀ (cdv : Value) (A : Around) (outer : List Env) (s : Shared) (H : Hp) (E : XK), RoomG k (A.deeper (envOfC qual (defScope st) s.heap.objs.size f cdv)) → PSs (cxOf CX0 P w K mg base N qual (defScope st) f cdv A outer s H E).nox (defBody st) (tS K body)) :
    FnOkG P w K mg base CX0 (k + 1) f fd ps (spOf ps.length (runF ps.length N.length body) K) := by
  refine fnG_of G S (fun vs H Q E h => ?_) (fun cdv A outer s H vs Q E hr h => ?_)
  · obtain ⟨F, as, hl, _⟩ := h
    exact hl
  · obtain ⟨F, as, hl, hp, A0, bs, r, hC, k0⟩ := h
    refine ⟨tS K body, (hb cdv A outer s H E hr).nox, ?_⟩
    unfold runF at hC
    split at hC
    case isFalse => cases hC
    obtain ⟨o, eo, hC⟩ := bind_some hC
    obtain ⟨A1, o1, u1⟩ := abs_entry (N := N) A0 hp hl hN
    refine ⟨F, _, A1, o, eo, ?_⟩
    cases o with
    | bk e => cases hC
    | ct e => cases hC
    | nx e =>
      obtain ⟨bs', ex, hC⟩ := bind_some hC
      cases hC
      refine fun σ' F' H' A' f' => ?_
      obtain ⟨A2, f2, _⟩ := abs_exit A0 hp hl hN A' f' ex
      exact k0 .non F' H' A2 f2 Rp.non trivial
    | rt r' e =>
      obtain ⟨bs', ex, hC⟩ := bind_some hC
      refine fun v σ' F' H' A' f' ok rt => ?_
      obtain ⟨A2, f2, own2⟩ := abs_exit A0 hp hl hN A' f' ex
      cases r' with
      | plc i => cases hC
      | fz d => cases hC; exact k0 v F' H' A2 f2 ok trivial
      | own d =>
        cases hC
        obtain ⟨a, e1, e2, e3, e4⟩ := ok
        obtain ⟨a', e5, e6⟩ := rt
        rw [e1] at e5
        cases e5
        refine k0 v F' H' A2 f2 ⟨a, e1, e2, e3, fun z => e4 (own2 a z)⟩ ⟨a, e1, ?_⟩
        rcases e6 with z | z
        · exact (u1 a z).elim
        · exact z
end

/-! ### a call -/
def argSV (env : MEnv) : RV → Option SV
  | .fz d => some (.fz d)
  | .own d => some (.own d)
  | .plc i => (env[i]?).bind fun x => match x with
    | .own d => some (.own d)
    | .ref d => some (.own d)
    | .fz d => some (.fz d)
    | .rfz d => some (.fz d)
    | .unb => none
def argSVs (env : MEnv) : List RV → Option (List SV)
  | [] => some []
  | r :: rs => (argSV env r).bind fun x => (argSVs env rs).bind fun xs => some (x :: xs)
/-- no slot is handed in twice -/
def placed (i : Nat) : List RV → Bool
  | [] => false
  | .plc j :: rs => decide (j = i) || placed i rs
  | _ :: rs => placed i rs
def apart : List RV → Bool
  | [] => true
  | .plc j :: rs => !placed j rs && apart rs
  | _ :: rs => apart rs
def SV.back (x y : SV) : SV := match x, y with
  | .own _, .own d => .own d
  | .own _, .fz d => .fz d
  | .ref _, .own d => .ref d
  | .ref _, .fz d => .rfz d
  | x, _ => x
def findSV : List RV → List SV → Nat → Option SV
  | .plc j :: rs, y :: ys, i => if j = i then some y else findSV rs ys i
  | _ :: rs, _ :: ys, i => findSV rs ys i
  | _, _, _ => none
def backAt (rs : List RV) (bs : List SV) (i : Nat) (x : SV) : SV := match findSV rs bs i with
  | some y => x.back y
  | none => x
def backSVs (rs : List RV) (bs : List SV) : Nat → MEnv → MEnv
  | _, [] => []
  | k, x :: xs => backAt rs bs k x :: backSVs rs bs (k + 1) xs
def eUser (C : CF) (ms : MA) : ME := fun env => (ms env).bind fun p => (argSVs p.1 p.2).bind fun as => if apart p.2 = true ∧ as.all SV.plain = true then (C as).bind fun q => if q.1.all SV.plain = true then match q.2 with
      | .plc _ => none
      | r => some (backSVs p.2 q.1 0 p.1, r)
    else none else none
theorem backSVs_length (rs : List RV) (bs : List SV) : ∀ (k : Nat) (env : MEnv), (backSVs rs bs k env).length = env.length
  | _, [] => rfl
  | k, x :: xs => congrArg (· + 1) (backSVs_length rs bs (k + 1) xs)
theorem backSVs_get (rs : List RV) (bs : List SV) : ∀ (k : Nat) (env : MEnv) (i : Nat), (backSVs rs bs k env)[i]? = (env[i]?).map (backAt rs bs (k + i))
  | _, [], _ => by simp [backSVs]
  | k, x :: xs, 0 => by simp [backSVs]
  | k, x :: xs, i + 1 => by
    show (backSVs rs bs (k + 1) xs)[i]? = _
    rw [backSVs_get rs bs (k + 1) xs i, List.getElem?_cons_succ, show k + 1 + i = k + (i + 1) by omega]
theorem argSVs_length {env : MEnv} : ∀ {rs : List RV} {as : List SV}, argSVs env rs = some as → as.length = rs.length
  | [], _, h => by cases h; rfl
  | r :: rs, as, h => by
    obtain ⟨x, _, h⟩ := bind_some h
    obtain ⟨xs, h2, h⟩ := bind_some h
    cases h
    exact congrArg (· + 1) (argSVs_length h2)
theorem findSV_some : ∀ {rs : List RV} {bs : List SV} {i : Nat} {y : SV}, findSV rs bs i = some y → ∃ j : Nat, rs[j]? = some (RV.plc i) ∧ bs[j]? = some y
  | .plc j :: rs, y :: ys, i, z, h => by
    unfold findSV at h
    split at h
    · rename_i e
      subst e
      cases h
      exact ⟨0, rfl, rfl⟩
    · obtain ⟨k, h1, h2⟩ := findSV_some h
      exact ⟨k + 1, by simpa using h1, by simpa using h2⟩
  | .fz d :: rs, y :: ys, i, z, h => by
    obtain ⟨k, h1, h2⟩ := findSV_some (rs := rs) (bs := ys) h
    exact ⟨k + 1, by simpa using h1, by simpa using h2⟩
  | .own d :: rs, y :: ys, i, z, h => by
    obtain ⟨k, h1, h2⟩ := findSV_some (rs := rs) (bs := ys) h
    exact ⟨k + 1, by simpa using h1, by simpa using h2⟩
  | [], _, _, _, h => by cases h
  | .plc _ :: _, [], _, _, h => by cases h
  | .fz _ :: _, [], _, _, h => by cases h
  | .own _ :: _, [], _, _, h => by cases h
theorem findSV_none : ∀ {rs : List RV} {bs : List SV} {i : Nat}, bs.length = rs.length → findSV rs bs i = none → ∀ j : Nat, rs[j]? ≠ some (RV.plc i)
  | [], _, _, _, _, j, e => by simp at e
  | .plc k :: rs, y :: ys, i, hl, h, j, e => by
    unfold findSV at h
    split at h
    · cases h
    · rename_i n
      cases j with
      | zero => simp at e; exact n e
      | succ j => exact findSV_none (by simpa using hl) h j (by simpa using e)
  | .fz d :: rs, y :: ys, i, hl, h, j, e => by
    cases j with
    | zero => simp at e
    | succ j => exact findSV_none (rs := rs) (bs := ys) (by simpa using hl) h j (by simpa using e)
  | .own d :: rs, y :: ys, i, hl, h, j, e => by
    cases j with
    | zero => simp at e
    | succ j => exact findSV_none (rs := rs) (bs := ys) (by simpa using hl) h j (by simpa using e)
  | _ :: _, [], _, hl, _, _, _ => by cases hl
theorem placed_of : ∀ {rs : List RV} {i j : Nat}, rs[j]? = some (.plc i) → placed i rs = true
  | [], _, _, e => by simp at e
  | r :: rs, i, 0, e => by
    simp at e
    subst e
    simp [placed]
  | r :: rs, i, j + 1, e => by
    have := placed_of (rs := rs) (i := i) (j := j) (by simpa using e)
    cases r <;> simp [placed, this]

section
variable {K : PySem.W.Frag} {F H F0 H0 : Hp} {σ : L2.St} {env env0 : MEnv}
theorem args_abs (A : Abs K F H σ env) : ∀ {vs : List V} {rs : List RV} {as : List SV}, rvsOk K F H σ env vs rs → argSVs env rs = some as → apart rs = true →
    Abs K F H (mst vs) as ∧ ∀ a, Owns (mst vs) as a → (∃ i, OwnsAt σ env i a ∧ placed i rs = true) ∨ V.ref a ∈ ownVs vs rs
  | [], [], as, _, e, _ => by
    cases e
    exact ⟨⟨A.same, rfl, fun i x e => by simp at e, fun i j a ⟨x, d, h, _⟩ => by simp at h⟩, fun a ⟨i, x, d, h, _⟩ => by simp at h⟩
  | v :: vs, r :: rs, as, h, e, ap => by
    obtain ⟨x, e1, e⟩ := bind_some e
    obtain ⟨xs, e2, e⟩ := bind_some e
    cases e
    have ap2 : apart rs = true := by
      cases r with
      | plc j => simp [apart] at ap; exact ap.2
      | fz d => exact ap
      | own d => exact ap
    obtain ⟨A2, O2⟩ := args_abs A h.2.1 e2 ap2
    -- the head
    have hx : x.ok K F H (some (some v)) := by
      cases r with
      | fz d => cases e1; exact ⟨v, rfl, h.1⟩
      | own d => cases e1; obtain ⟨a, q1, q2, q3, _⟩ := h.1; exact ⟨a, by rw [q1], q2, q3⟩
      | plc i =>
        obtain ⟨y, ey, e1⟩ := bind_some e1
        have sl := A.slot i y ey
        have hv : σ[i]? = some (some v) := h.1
        rw [hv] at sl
        cases y with
        | unb => cases e1
        | fz d => cases e1; exact sl
        | own d => cases e1; exact sl
        | ref d => cases e1; exact sl
        | rfz d => cases e1; exact sl
    have own0 : ∀ a d, x.isOwn = some d → v = .ref a → (∃ i, OwnsAt σ env i a ∧ r = .plc i) ∨ ∃ d', r = .own d' := fun a d o ev => by
      cases r with
      | fz d => cases e1; cases o
      | own d => exact .inr ⟨d, rfl⟩
      | plc i =>
        obtain ⟨y, ey, e1⟩ := bind_some e1
        have hv : σ[i]? = some (some v) := h.1
        subst ev
        cases y with
        | unb => cases e1
        | fz d => cases e1; cases o
        | rfz d => cases e1; cases o
        | own d => cases e1; exact .inl ⟨i, ⟨_, _, ey, rfl, hv⟩, rfl⟩
        | ref d => cases e1; exact .inl ⟨i, ⟨_, _, ey, rfl, hv⟩, rfl⟩
    have sep : ∀ a d, x.isOwn = some d → v = .ref a → ¬ Owns (mst vs) xs a := fun a d o ev z => by
      rcases own0 a d o ev with ⟨i, q, rfl⟩ | ⟨d', rfl⟩
      · rcases O2 a z with ⟨j, q2, q3⟩ | hm
        · have := A.inj i j a q q2
          subst this
          simp [apart] at ap
          rw [q3] at ap
          exact Bool.noConfusion ap.1
        · -- an owned temporary is no slot's
          have : ∀ {ws : List V} {ss : List RV}, rvsOk K F H σ env ws ss → V.ref a ∈ ownVs ws ss → ¬ Owns σ env a := by
            intro ws
            induction ws with
            | nil => intro ss _ hm; cases ss <;> cases hm
            | cons u us ih =>
              intro ss hs hm
              cases ss with
              | nil => cases hm
              | cons s ss =>
                cases s with
                | fz d => exact ih hs.2.1 hm
                | plc k => exact ih hs.2.1 hm
                | own d =>
                  rcases List.mem_cons.mp hm with rfl | hm
                  · obtain ⟨b, g1, _, _, g4⟩ := hs.1
                    cases g1
                    exact g4
                  · exact ih hs.2.1 hm
          exact this h.2.1 hm ⟨i, q⟩
      · rcases O2 a z with ⟨j, q2, _⟩ | hm
        · obtain ⟨b, g1, _, _, g4⟩ := h.1
          rw [ev] at g1
          cases g1
          exact g4 ⟨j, q2⟩
        · exact h.2.2 ⟨d', rfl⟩ (by rw [ev]; exact hm)
    have tl : ∀ j a, OwnsAt (mst (v :: vs)) (x :: xs) (j + 1) a → OwnsAt (mst vs) xs j a := fun j a ⟨y, d, h1, h2, h3⟩ => ⟨y, d, by simpa using h1, h2, by simpa [mst] using h3⟩
    have hd : ∀ a, OwnsAt (mst (v :: vs)) (x :: xs) 0 a → (∃ d, x.isOwn = some d) ∧ v = .ref a := fun a ⟨y, d, h1, h2, h3⟩ => by
      simp at h1
      subst h1
      simp [mst] at h3
      exact ⟨⟨d, h2⟩, h3⟩
    refine ⟨⟨A.same, ?_, fun j y ey => ?_, fun i j a h1 h2 => ?_⟩, fun a ⟨j, hj⟩ => ?_⟩
    · have := A2.len
      simp [mst] at this ⊢
      exact this
    · cases j with
      | zero => simp at ey; subst ey; simpa [mst] using hx
      | succ j =>
        have := A2.slot j y (by simpa using ey)
        simpa [mst] using this
    · cases i with
      | zero =>
        cases j with
        | zero => rfl
        | succ j =>
          obtain ⟨⟨d, o⟩, ev⟩ := hd a h1
          exact (sep a d o ev ⟨j, tl j a h2⟩).elim
      | succ i =>
        cases j with
        | zero =>
          obtain ⟨⟨d, o⟩, ev⟩ := hd a h2
          exact (sep a d o ev ⟨i, tl i a h1⟩).elim
        | succ j => rw [A2.inj i j a (tl i a h1) (tl j a h2)]
    · cases j with
      | zero =>
        obtain ⟨⟨d, o⟩, ev⟩ := hd a hj
        rcases own0 a d o ev with ⟨i, q, rfl⟩ | ⟨d', rfl⟩
        · exact .inl ⟨i, q, by simp [placed]⟩
        · exact .inr (by rw [ev]; exact List.mem_cons_self)
      | succ j =>
        rcases O2 a ⟨j, tl j a hj⟩ with ⟨i, q, q2⟩ | hm
        · exact .inl ⟨i, q, by cases r <;> simp [placed, q2]⟩
        · refine .inr ?_
          cases r with
          | fz d => exact hm
          | plc i => exact hm
          | own d => exact List.mem_cons_of_mem _ hm
  | [], _ :: _, _, h, _, _ => h.elim
  | _ :: _, [], _, h, _, _ => h.elim
end
theorem rvs_get {K : PySem.W.Frag} {F H : Hp} {σ : L2.St} {env : MEnv} : ∀ {vs : List V} {rs : List RV} {j : Nat} {r : RV}, rvsOk K F H σ env vs rs → rs[j]? = some r → ∃ v, vs[j]? = some v ∧ r.ok K F H σ env v
  | [], [], _, _, _, e => by simp at e
  | v :: vs, r :: rs, 0, _, h, e => by simp at e; subst e; exact ⟨v, rfl, h.1⟩
  | v :: vs, r :: rs, j + 1, _, h, e => by
    obtain ⟨u, h1, h2⟩ := rvs_get (j := j) h.2.1 (by simpa using e)
    exact ⟨u, by simpa using h1, h2⟩
  | [], _ :: _, _, _, h, _ => h.elim
  | _ :: _, [], _, _, h, _ => h.elim
theorem SV.back_lock {x y : SV} (h : x.lock = true) : (x.back y).lock = true := by
  cases x with
  | unb => cases h
  | fz _ => cases h
  | own _ => cases h
  | ref _ => cases y <;> rfl
  | rfz _ => cases y <;> rfl
theorem SV.back_own {x y : SV} {d : PyData} (h : (x.back y).isOwn = some d) : ∃ d', x.isOwn = some d' := by
  cases x with
  | own d' => exact ⟨d', rfl⟩
  | ref d' => exact ⟨d', rfl⟩
  | unb => cases h
  | fz _ => cases h
  | rfz _ => cases h
section
variable {K : PySem.W.Frag} {F H F1 H1 F' H' : Hp} {σ : L2.St} {env env1 : MEnv} {vs : List V} {rs : List RV} {as bs : List SV}
theorem call_back (A1 : Abs K F1 H1 σ env1) (f1 : Frm F H σ env F1 H1 σ env1) (o1 : rvsOk K F1 H1 σ env1 vs rs) (n1 : rvsNew H vs rs) (ea : argSVs env1 rs = some as) (ap : apart rs = true)
    (A2 : Abs K F' H' (mst vs) bs) (f2 : Frm F1 H1 (mst vs) as F' H' (mst vs) bs) (pb : bs.all SV.plain = true) :
    Abs K F' H' σ (backSVs rs bs 0 env1) ∧ Frm F H σ env F' H' σ (backSVs rs bs 0 env1) := by
  obtain ⟨Aa, Oa⟩ := args_abs A1 o1 ea ap
  have hbl : bs.length = rs.length := by rw [f2.len, argSVs_length ea]
  have get2 : ∀ i z, (backSVs rs bs 0 env1)[i]? = some z → ∃ x, env1[i]? = some x ∧ z = backAt rs bs i x := fun i z e => by
    rw [backSVs_get, Nat.zero_add] at e
    cases q : env1[i]? with
    | none => rw [q] at e; cases e
    | some x => rw [q] at e; exact ⟨x, rfl, (Option.some.inj e).symm⟩
  have own1 : ∀ i a, OwnsAt σ (backSVs rs bs 0 env1) i a → OwnsAt σ env1 i a := fun i a ⟨z, d, h1, h2, h3⟩ => by
    obtain ⟨x, e, rfl⟩ := get2 i z h1
    unfold backAt at h2
    split at h2
    · obtain ⟨d', q⟩ := SV.back_own h2
      exact ⟨x, d', e, q, h3⟩
    · exact ⟨x, d, e, h2, h3⟩
  have newT : ∀ a, V.ref a ∈ ownVs vs rs → H a = none := fun a hm => by
    obtain ⟨b, e, n⟩ := n1 _ hm
    cases e
    exact n
  have h1None : ∀ a, H1 a = none → H a = none := fun a z => by
    cases q : H a with
    | none => rfl
    | some u =>
      obtain ⟨o, ho⟩ := f1.there a u q
      rw [z] at ho; cases ho
  refine ⟨⟨A2.same, by rw [backSVs_length]; exact A1.len, fun i z e => ?_, fun i j a g1 g2 => A1.inj i j a (own1 i a g1) (own1 j a g2)⟩,
    ⟨f1.sameF.trans f2.sameF, fun a o h n => ?_, fun a o h => ?_, fun a o h => ?_, fun a ⟨i, h⟩ => f1.own a ⟨i, own1 i a h⟩, fun a ⟨i, d, g1, g3⟩ => ?_, fun i x e l => ?_, by rw [backSVs_length]; exact f1.len⟩⟩
  · obtain ⟨x, ex, rfl⟩ := get2 i z e
    have sl := A1.slot i x ex
    unfold backAt
    split
    · rename_i y hf
      obtain ⟨j, g1, g2⟩ := findSV_some hf
      obtain ⟨v, hv, ov⟩ := rvs_get o1 g1
      have ov' : σ[i]? = some (some v) := ov
      have sy := A2.slot j y g2
      have hm : (mst vs)[j]? = some (some v) := by simp [mst, hv]
      rw [hm, ← ov'] at sy
      have py := plain_at pb g2
      have fzok : ∀ d, (∃ v, σ[i]? = some (some v) ∧ Rp K F1 v d) → ∃ v, σ[i]? = some (some v) ∧ Rp K F' v d := fun d ⟨u, q, r⟩ => ⟨u, q, r.mono f2.sameF⟩
      cases x with
      | unb => trivial
      | fz d => exact fzok d sl
      | rfz d => exact fzok d sl
      | own d => cases y with
        | own d' => exact sy
        | fz d' => exact sy
        | _ => cases py
      | ref d => cases y with
        | own d' => exact sy
        | fz d' => exact sy
        | _ => cases py
    · rename_i hf
      have np := findSV_none hbl hf
      have own : ∀ d, x.isOwn = some d → (∃ a, σ[i]? = some (some (.ref a)) ∧ F1 a = none ∧ OwnC K F1 H1 a d) → ∃ a, σ[i]? = some (some (.ref a)) ∧ F' a = none ∧ OwnC K F' H' a d := fun d o ⟨a, q, fa, c⟩ => by
        obtain ⟨u, hu⟩ := c.there
        have nw : ¬ Owns (mst vs) as a := fun z => by
          rcases Oa a z with ⟨k, q2, q3⟩ | hm
          · have := A1.inj i k a ⟨x, d, ex, o, q⟩ q2
            subst this
            have : ∀ {ss : List RV}, placed i ss = true → ∃ j : Nat, ss[j]? = some (RV.plc i) := by
              intro ss
              induction ss with
              | nil => intro h; cases h
              | cons s ss ih =>
                intro h
                cases s with
                | plc k =>
                  by_cases hk : k = i
                  · subst hk; exact ⟨0, rfl⟩
                  · simp [placed, hk] at h
                    obtain ⟨j, hj⟩ := ih h
                    exact ⟨j + 1, by simpa using hj⟩
                | fz d => obtain ⟨j, hj⟩ := ih h; exact ⟨j + 1, by simpa using hj⟩
                | own d => obtain ⟨j, hj⟩ := ih h; exact ⟨j + 1, by simpa using hj⟩
            obtain ⟨j, hj⟩ := this q3
            exact np j hj
          · have g : ∀ {ws : List V} {ss : List RV}, rvsOk K F1 H1 σ env1 ws ss → V.ref a ∈ ownVs ws ss → ¬ Owns σ env1 a := by
              intro ws
              induction ws with
              | nil => intro ss _ hm; cases ss <;> cases hm
              | cons u us ih =>
                intro ss hs hm
                cases ss with
                | nil => cases hm
                | cons s ss =>
                  cases s with
                  | fz d => exact ih hs.2.1 hm
                  | plc k => exact ih hs.2.1 hm
                  | own d =>
                    rcases List.mem_cons.mp hm with rfl | hm
                    · obtain ⟨b, g1, _, _, g4⟩ := hs.1
                      cases g1
                      exact g4
                    · exact ih hs.2.1 hm
            exact g o1 hm ⟨i, x, d, ex, o, q⟩
        refine ⟨a, q, ?_, c.keep f2.sameF fun u hu => f2.keep a u hu nw⟩
        cases z : F' a with
        | none => rfl
        | some u' =>
          rcases f2.new a u' z with z | z | z
          · rw [fa] at z; cases z
          · exact (c.lo z).elim
          · exact (nw z).elim
      cases x with
      | unb => trivial
      | fz d => obtain ⟨v, q, r⟩ := sl; exact ⟨v, q, r.mono f2.sameF⟩
      | rfz d => obtain ⟨v, q, r⟩ := sl; exact ⟨v, q, r.mono f2.sameF⟩
      | own d => exact own d rfl sl
      | ref d => exact own d rfl sl
  · have hh := f1.keep a o h n
    refine f2.keep a o hh fun z => ?_
    rcases Oa a z with ⟨i, q, _⟩ | hm
    · rcases f1.own a ⟨i, q⟩ with z | z
      · exact n z
      · rw [h] at z; cases z
    · rw [newT a hm] at h; cases h
  · obtain ⟨o1, h1⟩ := f1.there a o h
    exact f2.there a o1 h1
  · rcases f2.new a o h with z | z | z
    · exact f1.new a o z
    · by_cases ow : Owns σ env a
      · exact .inr (.inr ow)
      · exact .inr (.inl fun u e => z u (f1.keep a u e ow))
    · rcases Oa a z with ⟨i, q, _⟩ | hm
      · rcases f1.own a ⟨i, q⟩ with z | z
        · exact .inr (.inr z)
        · exact .inr (.inl (Lo.none z))
      · exact .inr (.inl (Lo.none (newT a hm)))
  · obtain ⟨x, ex, ez⟩ := get2 i _ g1
    unfold backAt at ez
    split at ez
    · rename_i y hf
      cases x with
      | own d' => exact f1.ownU a ⟨i, d', ex, g3⟩
      | unb => cases ez
      | fz _ => cases ez
      | rfz _ => cases ez
      | ref d' => cases y <;> cases ez
    · subst ez
      exact f1.ownU a ⟨i, d, ex, g3⟩
  · obtain ⟨_, x1, q2, q3⟩ := f1.lock i x e l
    refine ⟨rfl, backAt rs bs i x1, ?_, ?_⟩
    · rw [backSVs_get, Nat.zero_add, q2]
      rfl
    · unfold backAt
      split
      · exact SV.back_lock q3
      · exact q3
end
section
variable {X : Cx} {k : Nat} {f : Addr} {fd : FuncData} {ps : List Str} {x : Str} {p pos : Pos} {e : Expr} {es : List Expr} {ms : MA} {C : CF} {n : Nat}
theorem user_to {K : PySem.W.Frag} {σ : L2.St} {H : Hp} {Q : VK} (hn : ∀ as q, C as = some q → as.length = n) (h : tE K (eUser C ms) σ H Q) : tCall (spOf n C K) [] E0 (tAs K ms) σ H Q := by
  obtain ⟨F, env, A, env', r, em, kk⟩ := h
  obtain ⟨⟨env1, rs⟩, e1, em⟩ := bind_some em
  obtain ⟨as, e2, em⟩ := bind_some em
  split at em
  case isFalse => cases em
  rename_i hc
  obtain ⟨⟨bs, r1⟩, e3, em⟩ := bind_some em
  split at em
  case isFalse => cases em
  rename_i pb
  refine ⟨F, env, A, env1, rs, e1, fun vs F1 H1 A1 f1 o1 n1 => ?_⟩
  obtain ⟨Aa, Oa⟩ := args_abs A1 o1 e2 hc.1
  rw [List.append_nil]
  have hl : vs.length = n := by
    have := hn as _ e3
    rw [argSVs_length e2] at this
    rw [rvsOk.length o1]
    exact this
  refine ⟨F1, as, hl, hc.2, Aa, bs, r1, e3, fun v F' H' A2 f2 ok nw => ?_⟩
  obtain ⟨A3, f3⟩ := call_back A1 f1 o1 n1 e2 hc.1 A2 f2 pb
  cases r1 with
  | plc i => cases em
  | fz d => cases em; exact kk v F' H' A3 f3 ok trivial
  | own d =>
    cases em
    obtain ⟨a, q1, q2, q3, q4⟩ := ok
    obtain ⟨a', g1, g2⟩ := nw
    rw [q1] at g1
    cases g1
    have h0 : H a = none := by
      cases q : H a with
      | none => rfl
      | some u =>
        obtain ⟨o, ho⟩ := f1.there a u q
        rw [g2] at ho; cases ho
    refine kk v F' H' A3 f3 ⟨a, q1, q2, q3, fun z => ?_⟩ ⟨a, q1, h0⟩
    obtain ⟨i, zz, dd, w1, w2, w3⟩ := z
    rw [backSVs_get, Nat.zero_add] at w1
    cases q : env1[i]? with
    | none => rw [q] at w1; cases w1
    | some y =>
      rw [q] at w1
      have ez : backAt rs bs i y = zz := Option.some.inj w1
      subst ez
      have ow : ∃ d', y.isOwn = some d' := by
        unfold backAt at w2
        split at w2
        · exact SV.back_own w2
        · exact ⟨dd, w2⟩
      obtain ⟨d', ow⟩ := ow
      obtain ⟨_, o, ho⟩ := A1.ownsF ⟨i, y, d', q, ow, w3⟩
      rw [g2] at ho; cases ho
/-- f(..) -/
theorem pe_callG {CX : CXT} {sp : Sp} {dvs : List V} {ds : List Value} {E : XK} {t : TA} (F : FnOkG X.prog X.w X.K X.mg X.base CX k f fd ps sp) (hr : RoomG k X.A) (hg : Gl X x) (hm : X.mg x = some (.ref f)) (hk : PySem.W.keepIn X.K (.ref f) = true) (hb : Binds X.K fd ps ds) (hd : Vals dvs ds) (hx : Passes CX X E)
    (ha : PA X (e :: es) t) (hdb : (x == ("__debug__" : Str)) = false := by decide) (he : starEach (e :: es) X.env = (false, eval e X.env) :: starEach es X.env := by rfl) (hpl : (backTo pos (starEach es X.env)).any (·.1) = false := by rfl) :
    PE X (.Call (.Name x p) (e :: es) [] pos) (tCall sp dvs E t) := by
  constructor
  intro pins s σ H Q I h
  refine wpAny_Call_Name_kw (ld_glob I hg hm (PySem.W.callWith_K (h₀ := X.base) I.ok.mod.kin hk (thn (ha.run pos pins s σ H _ I h) ?_) he hpl) hdb)
  rintro us s1 ⟨vs, H1, I1, r, q⟩
  refine ⟨I1.kIn, ?_⟩
  have rr : Vals (vs ++ dvs) (us ++ ds) := r.append hd
  have hl : (us ++ ds).length = ps.length := rr.length.symm.trans (F.len _ _ _ _ q)
  refine wpAny_call (codeAny_mono (F.go X.A X.stack s1 H1 ⟨us, []⟩ (us ++ ds) (vs ++ dvs) Q E hr I1.env0 (hb s1 us I1.kIn hl) rr q) ?_)
  intro r s2 hq
  cases r with
  | error ex => exact hx pins σ H1 s1 ex s2 I1 hq
  | ok fl => cases fl with
    | ret u => exact I1.after hq
    | _ => exact (show False from hq).elim
theorem re_user (hn : ∀ as q, C as = some q → as.length = n) (G : FnOkG X.prog X.w X.K X.mg X.base CX0 k f fd ps (spOf n C X.K)) (hr : RoomG k X.A) (hg : Gl X x) (hm : X.mg x = some (.ref f)) (hk : PySem.W.keepIn X.K (.ref f) = true) (hb : Binds X.K fd ps [])
    (ha : PA X (e :: es) (tAs X.K ms)) (hdb : (x == ("__debug__" : Str)) = false := by decide) (he : starEach (e :: es) X.env = (false, eval e X.env) :: starEach es X.env := by rfl) (hpl : (backTo pos (starEach es X.env)).any (·.1) = false := by rfl) :
    PE X (.Call (.Name x p) (e :: es) [] pos) (tE X.K (eUser C ms)) := pe_imp (pe_callG G hr hg hm hk hb .nil pass0 ha hdb he hpl) fun _ _ _ => user_to hn
end
theorem runF_len {n l : Nat} {body : MS} : ∀ as q, runF n l body as = some q → as.length = n := fun as q h => by
  unfold runF at h
  split at h
  · rename_i hc
    exact hc.1
  · cases h
end L3

/-! L3G: operators, built-ins, methods by data. -/
namespace L3
open PySem PySem.Spec PyProof.Rows L2

/-! ### data off the heap -/
section
variable {X : Cx} {pins : List (Addr × Obj)} {σ : L2.St} {H : Hp} {s : Shared}
theorem pairs_keys {P : Program} {w : World} : ∀ {es : List DictEntry} {vs : List (Key × Value)}, Pairs (mixKind P w) es vs → ∀ h : Heap, ∃ as, ReadsAll h (es.map (·.key)) (vs.map fun p => keyD p.1) as ∧ sysModules ∉ as
  | _, _, .nil, h => ⟨[], .nil, by simp⟩
  | _, _, .cons hk _ t, h => by
    obtain ⟨as, q, n⟩ := pairs_keys t h
    rcases keyIs_shape hk with ⟨i, tk, e1, e2⟩ | ⟨x, tk, e1, e2⟩
    · refine ⟨[] ++ as, .cons ?_ q, by simpa using n⟩
      dsimp only
      rw [e1, e2]
      exact Reads.int _ _
    · refine ⟨[] ++ as, .cons ?_ q, by simpa using n⟩
      dsimp only
      rw [e1, e2]
      exact Reads.str _ _
theorem pairs_vals {P : Program} {w : World} : ∀ {es : List DictEntry} {vs : List (Key × Value)}, Pairs (mixKind P w) es vs → es.map (·.val) = vs.map (·.2)
  | _, _, .nil => rfl
  | _, _, .cons _ e t => by
    rw [List.map_cons, List.map_cons, e, pairs_vals t]
theorem kv_vals : ∀ {kvs : List (Key × V)} {vs : List (Key × Value)}, KV kvs vs → Vals (kvs.map (·.2)) (vs.map (·.2)) ∧ vs.map (·.1) = kvs.map (·.1)
  | _, _, .nil => ⟨.nil, rfl⟩
  | _, _, .cons h t => by
    obtain ⟨a, b⟩ := kv_vals t
    exact ⟨.cons h.2 a, by rw [List.map_cons, List.map_cons, h.1, b]⟩
end

/-! ### kinds -/
def tyName : PyData → String
  | .none => "NoneType"
  | .bool _ => "bool"
  | .int _ => "int"
  | .str _ => "str"
  | .list _ => "list"
  | .tuple _ => "tuple"
  | .dict _ => "dict"
inductive Ty where
  | int | bool | str | list | tuple | dict
def Ty.name : Ty → String
  | .int => "int"
  | .bool => "bool"
  | .str => "str"
  | .list => "list"
  | .tuple => "tuple"
  | .dict => "dict"
def isiB : Ty → PyData → Bool
  | .int, .int _ => true
  | .int, .bool _ => true
  | .bool, .bool _ => true
  | .str, .str _ => true
  | .list, .list _ => true
  | .tuple, .tuple _ => true
  | .dict, .dict _ => true
  | _, _ => false
theorem kit_isi : ∀ (t : Ty) (d : PyData), kitB (tyName d) t.name = some (isiB t d) := by
  have h : ∀ (t : Ty), kitB "NoneType" t.name = some false ∧ kitB "bool" t.name = some (match t with | .int => true | .bool => true | _ => false) ∧ kitB "int" t.name = some (match t with | .int => true | _ => false) ∧
      kitB "str" t.name = some (match t with | .str => true | _ => false) ∧ kitB "list" t.name = some (match t with | .list => true | _ => false) ∧ kitB "tuple" t.name = some (match t with | .tuple => true | _ => false) ∧ kitB "dict" t.name = some (match t with | .dict => true | _ => false) := by
    intro t
    cases t <;> (refine ⟨?_, ?_, ?_, ?_, ?_, ?_, ?_⟩ <;> decide +kernel)
  intro t d
  obtain ⟨h1, h2, h3, h4, h5, h6, h7⟩ := h t
  cases d with
  | none => exact h1.trans (by cases t <;> rfl)
  | bool b => exact h2.trans (by cases t <;> rfl)
  | int b => exact h3.trans (by cases t <;> rfl)
  | str b => exact h4.trans (by cases t <;> rfl)
  | list b => exact h5.trans (by cases t <;> rfl)
  | tuple b => exact h6.trans (by cases t <;> rfl)
  | dict b => exact h7.trans (by cases t <;> rfl)
section
variable {X : Cx} {pins : List (Addr × Obj)} {σ : L2.St} {H : Hp} {s : Shared}
theorem kit_rp {v : V} {u : Value} {d : PyData} (I : Inv X pins σ H s) (h : Rp X.K H v d) (r : RelV v u) : ∃ P : Heap → Prop, PySem.W.KitX X.K u (.type (tyName d)) P ∧ P s.heap ∧ u ≠ .builtin "__main__.__loader__#opaque" := by
  cases h with
  | non => cases r; exact ⟨_, PySem.W.kitx_none, True.intro, fun z => nomatch z⟩
  | bl b => cases r; exact ⟨_, PySem.W.kitx_bool, True.intro, fun z => nomatch z⟩
  | int i => obtain ⟨t, rfl⟩ := r; exact ⟨_, PySem.W.kitx_int, True.intro, fun z => nomatch z⟩
  | str y => obtain ⟨t, rfl⟩ := r; exact ⟨_, PySem.W.kitx_str, True.intro, fun z => nomatch z⟩
  | lst q _ =>
    cases r
    obtain ⟨its, _, ⟨o, n, e, c, _⟩, _⟩ := I.list q
    exact ⟨_, PySem.W.kitx_list, ⟨o, e, c⟩, fun z => nomatch z⟩
  | tup q _ =>
    cases r
    obtain ⟨its, _, ⟨o, e, c, _⟩, _⟩ := I.tuple (SqT.of q)
    exact ⟨_, PySem.W.kitx_tuple, ⟨o, e, c⟩, fun z => nomatch z⟩
  | dK q _ =>
    cases r
    obtain ⟨_, _, vs, _, o, es, ep, e, c, _⟩ := (show ObjOk X.prog X.w H s.heap _ (.dK _) from q.rd.ok I.hok)
    exact ⟨_, PySem.W.kitx_dict, ⟨o, e, c.1⟩, fun z => nomatch z⟩
  | dT q _ _ =>
    cases r
    obtain ⟨_, _, vs, _, o, es, ep, e, c, _⟩ := (show ObjOk X.prog X.w H s.heap _ (.dT _) from q.ok I.hok)
    exact ⟨_, PySem.W.kitx_dict, ⟨o, e, c.1⟩, fun z => nomatch z⟩
  | dB q _ =>
    cases r
    obtain ⟨⟨_, o, es, ep, e, c, _⟩, _⟩ := (show ObjOk X.prog X.w H s.heap _ (boolO _ _) from I.hok _ _ q)
    exact ⟨_, PySem.W.kitx_dict, ⟨o, e, c.1⟩, fun z => nomatch z⟩
end
/-- isinstance(m, T) -/
def isi (t : Ty) : PyData → Option RV := fun d => some (.fz (.bool (isiB t d)))
def isiAny (ts : List Ty) : PyData → Option RV := fun d => some (.fz (.bool (ts.any fun t => isiB t d)))
section
variable {X : Cx} {m : ME} {e : Expr} {p p2 pos : Pos}
theorem call_isiD (t : Ty) : CallR X (.builtin "isinstance") (fun xs H Q => ∃ x F d, xs = [x, .ty t.name] ∧ Same F H ∧ Rk X.K F H x d ∧ Q (.bl (isiB t d)) H) := by
  intro pins s σ H xs us Q I r ⟨x, F, d, e, sm, k, q⟩
  subst e
  obtain ⟨u1, u2, rfl, r1, r2⟩ := vals2 r
  cases r2
  obtain ⟨P, Z, pp, hx⟩ := kit_rp I (k.rp sm) r1
  exact PySem.W.kia_one Z I.kIn pp (kit_ty (kit_isi t d)) hx fun tk => ⟨.bl _, H, I.tok tk, rfl, q⟩
theorem re_isi {x : Str} (t : Ty) (hg : Gl X "isinstance") (hm : X.mg "isinstance" = none) (he : PE X e (tE X.K m)) (hg2 : Gl X x) (hm2 : X.mg x = none) (hv2 : bootBuiltins x = some (.type t.name)) (hn : x ≠ "__name__" := by decide) (hd : (x == ("__debug__" : Str)) = false := by decide)
    (h1 : starEach [e, .Name x p2] X.env = (false, eval e X.env) :: starEach [.Name x p2] X.env := by rfl) (h2 : starEach [.Name x p2] X.env = (false, eval (.Name x p2) X.env) :: starEach [] X.env := by rfl) (hpl : (backTo pos (starEach [.Name x p2] X.env)).any (·.1) = false := by rfl) :
    PE X (.Call (.Name "isinstance" p) [e, .Name x p2] [] pos) (tE X.K (eOp1 (isi t) m)) := by
  refine pe_imp (pe_callB (call_isiD t) hg hm (by decide +kernel) (pa_cons he (pa_cons (pe_bltn (v := .ty t.name) hg2 hm2 hv2 rfl hn hd) pa_nil h2) h1) (by decide) (by decide) h1 hpl) fun σ H Q h => ?_
  obtain ⟨F, env, A, env', r, em, k⟩ := h
  obtain ⟨⟨env1, r1⟩, e1, em⟩ := bind_some em
  obtain ⟨d, e2, em⟩ := bind_some em
  cases em
  exact ⟨F, env, A, env1, r1, e1, fun v F1 H1 A1 f1 o1 n1 => ⟨v, F1, d, rfl, A1.same, RV.ok.rk o1 A1 e2, k _ F1 H1 A1 f1 (.bl _) trivial⟩⟩
theorem call_isiT2 (t t' : Ty) : CallR X (.builtin "isinstance") (fun xs H Q => ∃ x F d tp, xs = [x, .ref tp] ∧ Same F H ∧ Rk X.K F H x d ∧ H tp = some (.tup [.ty t.name, .ty t'.name]) ∧ Q (.bl ([t, t'].any fun t => isiB t d)) H) := by
  intro pins s σ H xs us Q I r ⟨x, F, d, tp, e, sm, k, hT, q⟩
  subst e
  obtain ⟨u1, u2, rfl, r1, r2⟩ := vals2 r
  cases r2
  obtain ⟨P, Z, pp, hx⟩ := kit_rp I (k.rp sm) r1
  obtain ⟨_, its, rv, o, h1, h2, n, h3⟩ := (show ObjOk X.prog X.w H s.heap tp (.tup _) from I.hok tp _ hT)
  have e3 : its = [Value.type t.name, Value.type t'.name] := by
    cases rv with
    | cons a rv =>
      cases rv with
      | cons b rv =>
        cases rv
        cases a
        cases b
        rfl
  subst e3
  obtain ⟨oc, od, dt, sl⟩ := o
  simp only at h2 h3
  subst h2 h3
  have ka : PySem.W.kitAny X.K (.type (tyName d)) [Value.type t.name, Value.type t'.name] = some (isiB t d || isiB t' d) := by
    cases g1 : isiB t d with
    | false =>
      refine kitAny_cons (b := false) (by rw [kit_ty (kit_isi t d), g1]) (fun _ => ?_) (fun z => by cases z)
      cases g2 : isiB t' d with
      | false => exact kitAny_cons (b := false) (by rw [kit_ty (kit_isi t' d), g2]) (fun _ => kitAny_nil) (fun z => by cases z)
      | true => exact kitAny_cons (b := true) (by rw [kit_ty (kit_isi t' d), g2]) (fun z => by cases z) (fun _ => rfl)
    | true => exact kitAny_cons (b := true) (by rw [kit_ty (kit_isi t d), g1]) (fun z => by cases z) (fun _ => rfl)
  refine PySem.W.kia_tup Z I.kIn pp h1 ka hx fun tk => ⟨.bl _, H, I.tok tk, rfl, ?_⟩
  have e5 : ([t, t'].any fun t => isiB t d) = (isiB t d || isiB t' d) := by simp
  rw [← e5]
  exact q
/-- isinstance(e, (T1, T2)) -/
theorem re_isi2 {x y : Str} {k2 : Nat} {p3 p4 : Pos} (t t' : Ty) (hg : Gl X "isinstance") (hm : X.mg "isinstance" = none) (he : PE X e (tE X.K m)) (hg2 : Gl X x) (hm2 : X.mg x = none) (hv2 : bootBuiltins x = some (.type t.name)) (hg3 : Gl X y) (hm3 : X.mg y = none) (hv3 : bootBuiltins y = some (.type t'.name))
    (hn : x ≠ "__name__" := by decide) (hd : (x == ("__debug__" : Str)) = false := by decide) (hn' : y ≠ "__name__" := by decide) (hd' : (y == ("__debug__" : Str)) = false := by decide)
    (h1 : starEach [e, .Tuple [.Name x p2, .Name y p3] k2 p4] X.env = (false, eval e X.env) :: starEach [.Tuple [.Name x p2, .Name y p3] k2 p4] X.env := by rfl) (h2 : starEach [.Tuple [.Name x p2, .Name y p3] k2 p4] X.env = (false, eval (.Tuple [.Name x p2, .Name y p3] k2 p4) X.env) :: starEach [] X.env := by rfl)
    (h3 : starEach [.Name x p2, .Name y p3] X.env = (false, eval (.Name x p2) X.env) :: starEach [.Name y p3] X.env := by rfl) (h4 : starEach [.Name y p3] X.env = (false, eval (.Name y p3) X.env) :: starEach [] X.env := by rfl) (hpl : (backTo pos (starEach [.Tuple [.Name x p2, .Name y p3] k2 p4] X.env)).any (·.1) = false := by rfl) :
    PE X (.Call (.Name "isinstance" p) [e, .Tuple [.Name x p2, .Name y p3] k2 p4] [] pos) (tE X.K (eOp1 (isiAny [t, t']) m)) := by
  refine pe_imp (pe_callB (call_isiT2 t t') hg hm (by decide +kernel) (pa_cons he (pa_cons (pe_tup (pa_cons (pe_bltn (v := .ty t.name) hg2 hm2 hv2 rfl hn hd) (pa_cons (pe_bltn (v := .ty t'.name) hg3 hm3 hv3 rfl hn' hd') pa_nil h4) h3)) pa_nil h2) h1) (by decide) (by decide) h1 hpl) fun σ H Q h => ?_
  obtain ⟨F, env, A, env', r, em, k⟩ := h
  obtain ⟨⟨env1, r1⟩, e1, em⟩ := bind_some em
  obtain ⟨d, e2, em⟩ := bind_some em
  cases em
  refine ⟨F, env, A, env1, r1, e1, fun v F1 H1 A1 f1 o1 n1 => ⟨by show 2 ≤ sizeLine; rw [sizeLine_eq]; decide, fun tp hp => ?_⟩⟩
  have sH : Same H1 (upd H1 tp (.tup [.ty t.name, .ty t'.name])) := fun b o q => by rw [upd_ne (ne_of_none q hp)]; exact q
  obtain ⟨A2, f2⟩ := grow A1 (Same.refl F1) sH (A1.same.trans sH) fun _ _ h => .inl h
  exact ⟨v, F1, d, tp, rfl, A2.same, RV.ok.rk (RV.ok.keep o1 f2) A2 e2, upd_same, k _ F1 _ A2 (f1.trans f2) (.bl _) trivial⟩
end

/-! ### operators -/
def fzI (i : Int) : Option RV := some (.fz (.int i))
def fzB (b : Bool) : Option RV := some (.fz (.bool b))
def fzS (x : Str) : Option RV := some (.fz (.str x))
def addD : PyData → PyData → Option RV
  | .int i, .int j => fzI (i + j)
  | .str x, .str y => if x.length + y.length ≤ lineN then fzS (x ++ y) else none
  | .list xs, .list ys => if xs.length + ys.length ≤ lineN then some (.own (.list (xs ++ ys))) else none
  | .tuple xs, .tuple ys => if xs.length + ys.length ≤ lineN then some (.fz (.tuple (xs ++ ys))) else none
  | _, _ => none
def subD : PyData → PyData → Option RV
  | .int i, .int j => fzI (i - j)
  | _, _ => none
def small64 (i : Int) : Bool := decide (-(2 ^ 64) < i ∧ i < 2 ^ 64)
def mulD : PyData → PyData → Option RV
  | .int i, .int j => if small64 i = true ∨ small64 j = true then fzI (i * j) else none
  | _, _ => none
def divD : PyData → PyData → Option RV
  | .int i, .int j => if 0 < j ∧ j < 18446744073709551616 then fzI (i / j) else none
  | _, _ => none
def modD : PyData → PyData → Option RV
  | .int i, .int j => if 0 < j then fzI (i % j) else none
  | _, _ => none
def powD : PyData → PyData → Option RV
  | .int i, .int j => if 0 ≤ j ∧ j ≤ 1000000 ∧ i.natAbs < 2 ^ 64 then fzI (i ^ j.toNat) else none
  | _, _ => none
def negD : PyData → Option RV
  | .int i => fzI (-i)
  | _ => none
theorem Rk.tupF {K : PySem.W.Frag} {F H : Hp} {v : V} {ds : List PyData} (h : Rk K F H v (.tuple ds)) : Rp K F v (.tuple ds) := by
  rcases h with h | ⟨a, _, q⟩
  · exact h
  · exact q.elim
section
variable {X : Cx}
theorem line_le {n : Nat} (h : n ≤ lineN) : n ≤ sizeLine := by rw [← lineN_eq]; exact h
/-- list + list, wherever the two stand -/
theorem cat_lists {pins : List (Addr × Obj)} {s : Shared} {σ : L2.St} {F H : Hp} {Q : VK} {a b : Addr} {xs ys : List V} {ds es : List PyData} (I : Inv X pins σ H s) (sm : Same F H) (h1 : SqL X.K H a xs) (h2 : SqL X.K H b ys)
    (r1 : RpAll X.K F xs ds) (r2 : RpAll X.K F ys es) (hz : ds.length + es.length ≤ lineN) (g : Gives X.K F H Q (.own (.list (ds ++ es)))) : wpAny (model X.prog X.w) X.A (binaryOp .Add (.ref a) (.ref b)) (EP X pins σ Q) X.xe s := by
  obtain ⟨iA, vA, ⟨oA, nA, gA, cA, dA, eA⟩, _⟩ := I.list h1
  obtain ⟨iB, vB, ⟨oB, nB, gB, cB, dB, eB⟩, _⟩ := I.list h2
  obtain ⟨c1, c2, c3, c4⟩ := oA
  obtain ⟨k1, k2, k3, k4⟩ := oB
  simp only at cA dA eA cB dB eB
  subst cA dA eA cB dB eB
  have hl : iA.length + iB.length ≤ sizeLine := by
    have q1 := vA.length
    have q2 := vB.length
    have q3 := r1.length
    have q4 := r2.length
    have q5 := line_le hz
    omega
  refine concat_meets ⟨_, gA, rfl⟩ ⟨_, gB, rfl⟩ noFill_list_add seq_list_add PySem.F.slot_list_add PySem.F.entry_list_add (PySem.F.args_list_add_2 _ _) (list_addW a b iA.toArray iB.toArray nA nB none none c4 k4 (by simpa using hl)) ⟨gA, gB, ?_⟩
  have ej : iA.toArray ++ iB.toArray = (iA ++ iB).toArray := by simp
  rw [ej]
  exact ⟨.ref _, _, I.lnew (t' := s.toks) (vA.append vB) (by rw [List.length_append, vA.length, vB.length]; exact hl), rfl, g.newList sm (r1.append r2) I.fresh⟩
theorem o_add : OpR X (binaryOp .Add) (rOp2 X.K addD) := by
  intro pins s σ H x y v u Q I rx ry ⟨F, d, e, r, sm, kx, ky, hf, g⟩
  unfold addD at hf
  split at hf
  · rw [kx.int] at rx; rw [ky.int] at ry
    cases hf
    exact op_add pins s σ H _ _ v u Q I rx ry ⟨_, _, rfl, rfl, g.flat sm (.int _)⟩
  · split at hf
    · rename_i hz
      rw [kx.str] at rx; rw [ky.str] at ry
      cases hf
      exact op_add_str pins s σ H _ _ v u Q I rx ry ⟨_, _, rfl, rfl, line_le hz, g.flat sm (.str _)⟩
    · cases hf
  · split at hf
    · rename_i hz
      cases hf
      obtain ⟨a, xs, rfl, h1, r1⟩ := kx.lst sm
      obtain ⟨b, ys, rfl, h2, r2⟩ := ky.lst sm
      cases rx
      cases ry
      exact cat_lists I sm h1 h2 r1 r2 hz g
    · cases hf
  · split at hf
    · rename_i hz
      cases hf
      obtain ⟨a, xs, rfl, h1, r1⟩ := kx.tup sm
      obtain ⟨b, ys, rfl, h2, r2⟩ := ky.tup sm
      refine op_catA pins s σ H _ _ v u Q I rx ry ⟨a, b, xs, ys, rfl, rfl, h1, h2, by rw [r1.length, r2.length]; exact line_le hz, ?_, ?_, ?_⟩
      · rintro rfl
        cases r1
        rw [List.nil_append] at g
        exact g.flat sm ky.tupF
      · rintro _ rfl
        cases r2
        rw [List.append_nil] at g
        exact g.flat sm kx.tupF
      · exact fun _ _ p hp => g.newTup sm (r1.append r2) hp
    · cases hf
  · cases hf
theorem o_sub : OpR X (binaryOp .Sub) (rOp2 X.K subD) := by
  intro pins s σ H x y v u Q I rx ry ⟨F, d, e, r, sm, kx, ky, hf, g⟩
  unfold subD at hf
  split at hf
  · rw [kx.int] at rx; rw [ky.int] at ry
    cases hf
    exact op_sub pins s σ H _ _ v u Q I rx ry ⟨_, _, rfl, rfl, g.flat sm (.int _)⟩
  · cases hf
theorem o_mul : OpR X (binaryOp .Mult) (rOp2 X.K mulD) := by
  intro pins s σ H x y v u Q I rx ry ⟨F, d, e, r, sm, kx, ky, hf, g⟩
  unfold mulD at hf
  split at hf
  · split at hf
    · rename_i hz
      rw [kx.int] at rx; rw [ky.int] at ry
      cases hf
      refine op_mul pins s σ H _ _ v u Q I rx ry ⟨_, _, rfl, rfl, ?_, g.flat sm (.int _)⟩
      rcases hz with hz | hz
      · exact .inl (of_decide_eq_true hz)
      · exact .inr (of_decide_eq_true hz)
    · cases hf
  · cases hf
theorem o_div : OpR X (binaryOp .FloorDiv) (rOp2 X.K divD) := by
  intro pins s σ H x y v u Q I rx ry ⟨F, d, e, r, sm, kx, ky, hf, g⟩
  unfold divD at hf
  split at hf
  · split at hf
    · rename_i hz
      rw [kx.int] at rx; rw [ky.int] at ry
      cases hf
      exact op_fdivW pins s σ H _ _ v u Q I rx ry ⟨_, _, rfl, rfl, wide_div (b := 64) hz.1 (by have := hz.1; have := hz.2; omega) (by decide) (by decide), g.flat sm (.int _)⟩
    · cases hf
  · cases hf
theorem o_mod : OpR X (binaryOp .Mod) (rOp2 X.K modD) := by
  intro pins s σ H x y v u Q I rx ry ⟨F, d, e, r, sm, kx, ky, hf, g⟩
  unfold modD at hf
  split at hf
  · split at hf
    · rename_i hz
      rw [kx.int] at rx; rw [ky.int] at ry
      cases hf
      exact op_mod pins s σ H _ _ v u Q I rx ry ⟨_, _, rfl, rfl, hz, g.flat sm (.int _)⟩
    · cases hf
  · cases hf
theorem o_pow : OpR X (binaryOp .Pow) (rOp2 X.K powD) := by
  intro pins s σ H x y v u Q I rx ry ⟨F, d, e, r, sm, kx, ky, hf, g⟩
  unfold powD at hf
  split at hf
  · split at hf
    · rename_i hz
      rw [kx.int] at rx; rw [ky.int] at ry
      cases hf
      exact op_pow pins s σ H _ _ v u Q I rx ry ⟨_, _, rfl, rfl, hz, g.flat sm (.int _)⟩
    · cases hf
  · cases hf
theorem u_neg : UnR X (unaryOp .USub) (rOp1 X.K negD) := by
  intro pins s σ H x v Q I rx ⟨F, d, r, sm, kx, hf, g⟩
  unfold negD at hf
  split at hf
  · rw [kx.int] at rx
    cases hf
    exact un_neg pins s σ H _ v Q I rx ⟨_, rfl, g.flat sm (.int _)⟩
  · cases hf
end

/-! ### keys -/
def keyOf : PyData → Option Key
  | .int i => some (.inl i)
  | .str x => some (.inr x)
  | _ => none
theorem keyOf_some {d : PyData} {k : Key} (h : keyOf d = some k) : d = keyD k := by
  unfold keyOf at h
  split at h
  · cases h; rfl
  · cases h; rfl
  · cases h
theorem keyOf_keyD (k : Key) : keyOf (keyD k) = some k := by cases k <;> rfl
/-- what stands at a key -/
def findK (k : Key) : List (PyData × PyData) → Option PyData
  | [] => none
  | p :: r => if keyOf p.1 = some k then some p.2 else findK k r
/-- all keys are numbers or texts -/
def flatKs (kvs : List (PyData × PyData)) : Bool := kvs.all fun p => (keyOf p.1).isSome
/-! ### comparisons -/
def cmpI (p : Int → Int → Bool) : PyData → PyData → Option RV
  | .int i, .int j => fzB (p i j)
  | _, _ => none
abbrev ltD := cmpI fun i j => decide (i < j)
abbrev leD := cmpI fun i j => decide (i ≤ j)
abbrev gtD := cmpI fun i j => decide (j < i)
abbrev geD := cmpI fun i j => decide (j ≤ i)
def eqD : PyData → PyData → Option RV
  | .str x, .str y => fzB (decide (x = y))
  | d, e => if SeqAt.shaped d = true ∧ SeqAt.shaped e = true then fzB (PyData.eqv d e) else none
def neD : PyData → PyData → Option RV
  | .str x, .str y => fzB (!decide (x = y))
  | d, e => if SeqAt.shaped d = true ∧ SeqAt.shaped e = true then fzB (!PyData.eqv d e) else none
def isNone : PyData → Bool
  | .none => true
  | _ => false
def isBool (k : Bool) : PyData → Bool
  | .bool j => j == k
  | _ => false
/-- is, beside None or a truth -/
def isD : PyData → PyData → Option RV
  | d, .none => fzB (isNone d)
  | d, .bool k => fzB (isBool k d)
  | _, _ => none
def isNotD : PyData → PyData → Option RV
  | d, .none => fzB (!isNone d)
  | d, .bool k => fzB (!isBool k d)
  | _, _ => none
def keysOf : List PyData → Option (List Key)
  | [] => some []
  | d :: r => (keyOf d).bind fun k => (keysOf r).bind fun ks => some (k :: ks)
/-- all keys are tuples of numbers and texts -/
def keyT : PyData → Option (List Key)
  | .tuple ts => keysOf ts
  | _ => none
def tupKs (kvs : List (PyData × PyData)) : Bool := kvs.all fun p => (keyT p.1).isSome
def findT (k : List Key) : List (PyData × PyData) → Option PyData
  | [] => none
  | p :: r => if keyT p.1 = some k then some p.2 else findT k r
/-- one sign in a text -/
def inD : PyData → PyData → Option RV
  | .str x, .str y => match x.cps.toList with
    | [c] => fzB (decide (c ∈ y.cps.toList))
    | _ => none
  | d, .list ds => if SeqAt.shaped d = true ∧ SeqAt.shaped (.list ds) = true then fzB (ds.any fun z => PyData.eqv z d) else none
  | d, .tuple ds => if SeqAt.shaped d = true ∧ SeqAt.shaped (.tuple ds) = true then fzB (ds.any fun z => PyData.eqv z d) else none
  | .tuple ts, .dict kvs => (keysOf ts).bind fun k => if tupKs kvs = true then fzB (findT k kvs).isSome else none
  | d, .dict kvs => (keyOf d).bind fun k => if flatKs kvs = true then fzB (findK k kvs).isSome else none
  | _, _ => none
section
variable {X : Cx}
theorem o_cmpI {op : CmpOp} {p : Int → Int → Bool} (h : OpR X (compareOp op) (rI0 fun i j => .bl (p i j))) : OpR X (compareOp op) (rOp2 X.K (cmpI p)) := by
  intro pins s σ H x y v u Q I rx ry ⟨F, d, e, r, sm, kx, ky, hf, g⟩
  unfold cmpI at hf
  split at hf
  · rw [kx.int] at rx; rw [ky.int] at ry
    cases hf
    exact h pins s σ H _ _ v u Q I rx ry ⟨_, _, rfl, rfl, g.flat sm (.bl _)⟩
  · cases hf
theorem o_lt : OpR X (compareOp .Lt) (rOp2 X.K ltD) := o_cmpI op_lt
theorem o_le : OpR X (compareOp .LtE) (rOp2 X.K leD) := o_cmpI op_le
theorem o_gt : OpR X (compareOp .Gt) (rOp2 X.K gtD) := o_cmpI op_gt
theorem o_ge : OpR X (compareOp .GtE) (rOp2 X.K geD) := o_cmpI op_ge
mutual
theorem dp_of {K : PySem.W.Frag} {H : Hp} : ∀ (d : PyData) (v : V), Rp K H v d → d.canLay0 = true → Dp K H v d
  | .none, _, h, _ => by cases h; exact .non
  | .bool b, _, h, _ => by cases h; exact .bl _
  | .int i, _, h, _ => by cases h; exact .int _
  | .str x, _, h, _ => by cases h; exact .str _
  | .list ds, _, h, c => by
    cases h with
    | lst q r => exact .lst q (dp_ofAll ds _ r (by simpa [PyData.canLay0] using c))
  | .tuple ds, _, h, c => by
    cases h with
    | tup q r => exact .tup (SqT.of q) (dp_ofAll ds _ r (by simpa [PyData.canLay0] using c))
  | .dict kvs, _, h, c => by simp [PyData.canLay0] at c
theorem dp_ofAll {K : PySem.W.Frag} {H : Hp} : ∀ (ds : List PyData) (vs : List V), RpAll K H vs ds → PyData.canLayAll0 ds = true → DpAll K H vs ds
  | [], _, h, _ => by cases h; exact .nil
  | d :: ds, _, h, c => by
    have c' : d.canLay0 = true ∧ PyData.canLayAll0 ds = true := by simpa [PyData.canLayAll0] using c
    cases h with
    | cons a b => exact .cons (dp_of d _ a c'.1) (dp_ofAll ds _ b c'.2)
end
theorem o_eq (hu : X.A.units + 64 < cLine) : OpR X (compareOp .Eq) (rOp2 X.K eqD) := by
  intro pins s σ H x y v u Q I rx ry ⟨F, d, e, r, sm, kx, ky, hf, g⟩
  unfold eqD at hf
  split at hf
  · rename_i a b
    rw [kx.str] at rx; rw [ky.str] at ry
    cases hf
    have q := g.flat sm (.bl _)
    exact op_eq pins s σ H _ _ v u Q I rx ry ⟨rfl, by rw [show decide (V.str a = V.str b) = decide (a = b) from decide_eq_decide.mpr ⟨fun h => V.str.inj h, fun h => congrArg _ h⟩]; exact q⟩
  · split at hf
    case isFalse => cases hf
    rename_i hz
    cases hf
    exact op_eqD hu pins s σ H x y v u Q I rx ry ⟨d, e, dp_of d x (kx.rp sm) (SeqAt.canLay_of_shaped hz.1), dp_of e y (ky.rp sm) (SeqAt.canLay_of_shaped hz.2), hz.1, hz.2, g.flat sm (.bl _)⟩
theorem o_ne (hu : X.A.units + 64 < cLine) : OpR X (compareOp .NotEq) (rOp2 X.K neD) := by
  intro pins s σ H x y v u Q I rx ry ⟨F, d, e, r, sm, kx, ky, hf, g⟩
  unfold neD at hf
  split at hf
  · rename_i a b
    rw [kx.str] at rx; rw [ky.str] at ry
    cases hf
    have q := g.flat sm (.bl _)
    exact op_ne pins s σ H _ _ v u Q I rx ry ⟨rfl, by rw [show decide (V.str a = V.str b) = decide (a = b) from decide_eq_decide.mpr ⟨fun h => V.str.inj h, fun h => congrArg _ h⟩]; exact q⟩
  · split at hf
    case isFalse => cases hf
    rename_i hz
    cases hf
    exact op_neD hu pins s σ H x y v u Q I rx ry ⟨d, e, dp_of d x (kx.rp sm) (SeqAt.canLay_of_shaped hz.1), dp_of e y (ky.rp sm) (SeqAt.canLay_of_shaped hz.2), hz.1, hz.2, g.flat sm (.bl _)⟩
/-- a datum's value is a truth just where the datum is -/
theorem rp_bool {K : PySem.W.Frag} {F H : Hp} {v : V} {d : PyData} (h : Rk K F H v d) (k : Bool) : isBool k d = decide (v = .bl k) := by
  rcases h with h | ⟨a, rfl, q⟩
  · cases h with
    | bl b => cases b <;> cases k <;> rfl
    | _ => rfl
  · cases d with
    | bool b => exact q.elim
    | _ => rfl
theorem rp_none {K : PySem.W.Frag} {F H : Hp} {v : V} {d : PyData} (h : Rk K F H v d) : isNone d = decide (v = .non) := by
  rcases h with h | ⟨a, rfl, q⟩
  · cases h <;> rfl
  · cases d with
    | none => exact q.elim
    | _ => rfl
theorem is_bl {pins : List (Addr × Obj)} {s : Shared} {σ : L2.St} {H : Hp} {x : V} {k : Bool} {v : Value} {Q : VK} (I : Inv X pins σ H s) (rx : RelV x v) (q : Q (.bl (decide (x = .bl k))) H) :
    wpAny (model X.prog X.w) X.A (compareOp .Is v (.bool k)) (EP X pins σ Q) X.xe s := by
  by_cases e : x = .bl k
  · subst e
    cases rx
    exact wpAny_is_self rfl ⟨.bl true, H, I, rfl, by simpa using q⟩
  · have ne : v ≠ .bool k := fun z => e (by
      subst z
      cases x with
      | bl b => cases rx; rfl
      | non => cases rx
      | int i => obtain ⟨t, z⟩ := rx; cases z
      | str i => obtain ⟨t, z⟩ := rx; cases z
      | byt i => obtain ⟨t, z⟩ := rx; cases z
      | flt i => obtain ⟨t, z⟩ := rx; cases z
      | ref i => cases rx
      | ty i => cases rx)
    have en : (decide (x = .bl k)) = false := decide_eq_false e
    rw [en] at q
    cases x with
    | non => cases rx; exact wpAny_is_other rfl ne ⟨.bl false, H, I, rfl, q⟩
    | bl b => cases rx; exact wpAny_is_other rfl ne ⟨.bl false, H, I, rfl, q⟩
    | int i => obtain ⟨t, rfl⟩ := rx; exact wpAny_is_other rfl ne ⟨.bl false, H, I, rfl, q⟩
    | str i => obtain ⟨t, rfl⟩ := rx; exact wpAny_is_other rfl ne ⟨.bl false, H, I, rfl, q⟩
    | byt i => obtain ⟨t, rfl⟩ := rx; exact wpAny_is_other rfl ne ⟨.bl false, H, I, rfl, q⟩
    | flt i => obtain ⟨t, rfl⟩ := rx; exact wpAny_is_other rfl ne ⟨.bl false, H, I, rfl, q⟩
    | ref i => cases rx; exact wpAny_is_other rfl ne ⟨.bl false, H, I, rfl, q⟩
    | ty i => cases rx; exact wpAny_is_other rfl ne ⟨.bl false, H, I, rfl, q⟩
end
end L3

/-! L3H: is, in, subscripts, slices, texts, more built-ins, displays of dicts, by data. -/
namespace L3
open PySem PySem.Spec PyProof.Rows L2

section
variable {X : Cx}
theorem o_is : OpR X (compareOp .Is) (rOp2 X.K isD) := by
  intro pins s σ H x y v u Q I rx ry ⟨F, d, e, r, sm, kx, ky, hf, g⟩
  unfold isD at hf
  split at hf
  · rw [ky.non] at ry
    cases hf
    refine op_isN pins s σ H x .non v u Q I rx ry ⟨rfl, ?_⟩
    rw [← rp_none kx]
    exact g.flat sm (.bl _)
  · rw [ky.bl] at ry
    cases ry
    cases hf
    refine is_bl I rx ?_
    rw [← rp_bool kx]
    exact g.flat sm (.bl _)
  · cases hf
theorem isNot_bl {pins : List (Addr × Obj)} {s : Shared} {σ : L2.St} {H : Hp} {x : V} {k : Bool} {v : Value} {Q : VK} (I : Inv X pins σ H s) (rx : RelV x v) (q : Q (.bl (!decide (x = .bl k))) H) :
    wpAny (model X.prog X.w) X.A (compareOp .IsNot v (.bool k)) (EP X pins σ Q) X.xe s := by
  by_cases e : x = .bl k
  · subst e
    cases rx
    exact wpAny_isNot_self rfl ⟨.bl false, H, I, rfl, by simpa using q⟩
  · have ne : v ≠ .bool k := fun z => e (by
      subst z
      cases x with
      | bl b => cases rx; rfl
      | non => cases rx
      | int i => obtain ⟨t, z⟩ := rx; cases z
      | str i => obtain ⟨t, z⟩ := rx; cases z
      | byt i => obtain ⟨t, z⟩ := rx; cases z
      | flt i => obtain ⟨t, z⟩ := rx; cases z
      | ref i => cases rx
      | ty i => cases rx)
    have en : (decide (x = .bl k)) = false := decide_eq_false e
    rw [en] at q
    cases x with
    | non => cases rx; exact wpAny_isNot_other rfl ne ⟨.bl true, H, I, rfl, q⟩
    | bl b => cases rx; exact wpAny_isNot_other rfl ne ⟨.bl true, H, I, rfl, q⟩
    | int i => obtain ⟨t, rfl⟩ := rx; exact wpAny_isNot_other rfl ne ⟨.bl true, H, I, rfl, q⟩
    | str i => obtain ⟨t, rfl⟩ := rx; exact wpAny_isNot_other rfl ne ⟨.bl true, H, I, rfl, q⟩
    | byt i => obtain ⟨t, rfl⟩ := rx; exact wpAny_isNot_other rfl ne ⟨.bl true, H, I, rfl, q⟩
    | flt i => obtain ⟨t, rfl⟩ := rx; exact wpAny_isNot_other rfl ne ⟨.bl true, H, I, rfl, q⟩
    | ref i => cases rx; exact wpAny_isNot_other rfl ne ⟨.bl true, H, I, rfl, q⟩
    | ty i => cases rx; exact wpAny_isNot_other rfl ne ⟨.bl true, H, I, rfl, q⟩
theorem o_isNot : OpR X (compareOp .IsNot) (rOp2 X.K isNotD) := by
  intro pins s σ H x y v u Q I rx ry ⟨F, d, e, r, sm, kx, ky, hf, g⟩
  unfold isNotD at hf
  split at hf
  · rw [ky.non] at ry
    cases hf
    refine op_notN pins s σ H x .non v u Q I rx ry ⟨rfl, ?_⟩
    rw [← rp_none kx]
    exact g.flat sm (.bl _)
  · rw [ky.bl] at ry
    cases ry
    cases hf
    refine isNot_bl I rx ?_
    rw [← rp_bool kx]
    exact g.flat sm (.bl _)
  · cases hf
theorem bool_flat {vs : List (Bool × Bool)} (n : vs ≠ []) (h : flatKs (truD vs) = true) : False := by
  cases vs with
  | nil => exact n rfl
  | cons p r => simp [truD, flatKs, keyOf] at h
theorem bool_tup {vs : List (Bool × Bool)} (n : vs ≠ []) (h : tupKs (truD vs) = true) : False := by
  cases vs with
  | nil => exact n rfl
  | cons p r => simp [truD, tupKs, keyT] at h
/-- a dict by data: its keys are numbers and texts -/
theorem dict_at {K : PySem.W.Frag} {F H : Hp} {v : V} {kvs : List (PyData × PyData)} (h : Rk K F H v (.dict kvs)) (sm : Same F H) (hf : flatKs kvs = true) :
    ∃ (a : Addr) (ks : List (Key × V)) (ds : List PyData), v = .ref a ∧ Rd H a (.dK ks) ∧ RpAll K F (ks.map (·.2)) ds ∧ kvs = (ks.map fun p => keyD p.1).zip ds := by
  have no : ∀ {ks : List (List Key × V)} {ds : List PyData}, ks ≠ [] → RpAll K F (ks.map (·.2)) ds → flatKs ((ks.map fun p => PyData.tuple (p.1.map keyD)).zip ds) = true → False := fun {ks ds} n r z => by
    cases ks with
    | nil => exact n rfl
    | cons p ks =>
      cases r with
      | cons a t =>
        simp [flatKs, keyOf] at z
  rcases h with h | ⟨a, rfl, h⟩
  · cases h with
    | dK q r => exact ⟨_, _, _, rfl, rd_mono sm q.rd, r, rfl⟩
    | dT q n r => exact (no n r hf).elim
    | dB q n => exact (bool_flat n hf).elim
  · rcases h with ⟨ks, ds, q, r, z⟩ | ⟨ks, ds, q, r, n, z⟩ | ⟨vs, q, n, z⟩
    · exact ⟨a, ks, ds, rfl, .inl q, r, z⟩
    · subst z
      exact (no n r hf).elim
    · subst z
      exact (bool_flat n hf).elim
theorem find_val {K : PySem.W.Frag} {F : Hp} (k : Key) : ∀ {ks : List (Key × V)} {ds : List PyData}, RpAll K F (ks.map (·.2)) ds →
    (valV ks k = none ∧ findK k ((ks.map fun p => keyD p.1).zip ds) = none) ∨ ∃ v d, valV ks k = some v ∧ findK k ((ks.map fun p => keyD p.1).zip ds) = some d ∧ Rp K F v d
  | [], _, _ => .inl ⟨rfl, rfl⟩
  | p :: ks, _, h => by
    cases h with
    | @cons _ _ d ds a t =>
      by_cases e : p.1 = k
      · refine .inr ⟨p.2, d, valV_pos e, ?_, a⟩
        show (if keyOf (keyD p.1) = some k then some d else _) = _
        rw [keyOf_keyD, if_pos (by rw [e])]
      · have hn : findK k (((p :: ks).map fun p => keyD p.1).zip (d :: ds)) = findK k ((ks.map fun p => keyD p.1).zip ds) := by
          show (if keyOf (keyD p.1) = some k then some d else _) = _
          rw [keyOf_keyD, if_neg (fun z => e (Option.some.inj z))]
          rfl
        rw [hn, valV_neg e]
        exact find_val k t
theorem key_rel {K : PySem.W.Frag} {F H : Hp} {v : V} {d : PyData} {k : Key} (h : Rk K F H v d) (e : keyOf d = some k) : v = kV k := by
  have := keyOf_some e
  subst this
  cases k with
  | inl i => exact h.int
  | inr x => exact h.str
theorem keys_rel {K : PySem.W.Frag} {F : Hp} : ∀ {ds : List PyData} {vs : List V} {ks : List Key}, RpAll K F vs ds → keysOf ds = some ks → vs = ks.map kV ∧ ds = ks.map keyD
  | [], _, _, h, e => by cases h; cases e; exact ⟨rfl, rfl⟩
  | d :: ds, _, _, h, e => by
    cases h with
    | cons hd h =>
      obtain ⟨k, e1, e⟩ := bind_some e
      obtain ⟨ks, e2, e⟩ := bind_some e
      cases e
      obtain ⟨q1, q2⟩ := keys_rel h e2
      have e3 := keyOf_some e1
      subst e3
      refine ⟨?_, by rw [List.map_cons, q2]⟩
      rw [List.map_cons, q1]
      congr 1
      cases k <;> (cases hd; rfl)
theorem keysOf_keyD : ∀ k : List Key, keysOf (k.map keyD) = some k
  | [] => rfl
  | k :: ks => by
    rw [List.map_cons, keysOf, keyOf_keyD, keysOf_keyD ks]
    rfl
theorem keyT_keyD (k : List Key) : keyT (.tuple (k.map keyD)) = some k := keysOf_keyD k
theorem dictT_at {K : PySem.W.Frag} {F H : Hp} {v : V} {kvs : List (PyData × PyData)} (h : Rk K F H v (.dict kvs)) (sm : Same F H) (hf : tupKs kvs = true) :
    (∃ a, v = .ref a ∧ H a = some (.dK []) ∧ kvs = []) ∨ ∃ (a : Addr) (ks : List (List Key × V)) (ds : List PyData), v = .ref a ∧ Rd H a (.dT ks) ∧ RpAll K F (ks.map (·.2)) ds ∧ kvs = (ks.map fun p => PyData.tuple (p.1.map keyD)).zip ds := by
  have no : ∀ {ks : List (Key × V)} {ds : List PyData}, RpAll K F (ks.map (·.2)) ds → tupKs ((ks.map fun p => keyD p.1).zip ds) = true → ks = [] ∧ (ks.map fun p => keyD p.1).zip ds = [] := fun {ks ds} r z => by
    cases ks with
    | nil => exact ⟨rfl, rfl⟩
    | cons p ks =>
      cases r with
      | cons a t =>
        rw [List.map_cons, List.zip_cons_cons, tupKs, List.all_cons, Bool.and_eq_true] at z
        have z1 := z.1
        obtain ⟨p1, p2⟩ := p
        cases p1 <;> cases z1
  rcases h with h | ⟨a, rfl, h⟩
  · cases h with
    | dK q r =>
      obtain ⟨rfl, e⟩ := no r hf
      exact .inl ⟨_, rfl, sm _ _ q.nil, e⟩
    | dT q n r => exact .inr ⟨_, _, _, rfl, rd_mono sm q, r, rfl⟩
    | dB q n => exact (bool_tup n hf).elim
  · rcases h with ⟨ks, ds, q, r, z⟩ | ⟨ks, ds, q, r, n, z⟩ | ⟨vs, q, n, z⟩
    · subst z
      obtain ⟨rfl, e⟩ := no r hf
      exact .inl ⟨_, rfl, q, e⟩
    · subst z
      exact .inr ⟨_, _, _, rfl, .inl q, r, rfl⟩
    · subst z
      exact (bool_tup n hf).elim
theorem find_valT {K : PySem.W.Frag} {F : Hp} (k : List Key) : ∀ {ks : List (List Key × V)} {ds : List PyData}, RpAll K F (ks.map (·.2)) ds →
    (valV ks k = none ∧ findT k ((ks.map fun p => PyData.tuple (p.1.map keyD)).zip ds) = none) ∨ ∃ v d, valV ks k = some v ∧ findT k ((ks.map fun p => PyData.tuple (p.1.map keyD)).zip ds) = some d ∧ Rp K F v d
  | [], _, _ => .inl ⟨rfl, rfl⟩
  | p :: ks, _, h => by
    cases h with
    | @cons _ _ d ds a t =>
      by_cases e : p.1 = k
      · refine .inr ⟨p.2, d, valV_pos e, ?_, a⟩
        show (if keyT (.tuple (p.1.map keyD)) = some k then some d else _) = _
        rw [keyT_keyD, if_pos (by rw [e])]
      · have hn : findT k (((p :: ks).map fun p => PyData.tuple (p.1.map keyD)).zip (d :: ds)) = findT k ((ks.map fun p => PyData.tuple (p.1.map keyD)).zip ds) := by
          show (if keyT (.tuple (p.1.map keyD)) = some k then some d else _) = _
          rw [keyT_keyD, if_neg (fun z => e (Option.some.inj z))]
          rfl
        rcases find_valT k t with ⟨q1, q2⟩ | ⟨v', d', q1, q2, q3⟩
        · exact .inl ⟨(valV_neg e).trans q1, hn.trans q2⟩
        · exact .inr ⟨v', d', (valV_neg e).trans q1, hn.trans q2, q3⟩
theorem keyT_rel {K : PySem.W.Frag} {F H : Hp} {v : V} {ts : List PyData} {k : List Key} (h : Rk K F H v (.tuple ts)) (sm : Same F H) (e : keysOf ts = some k) : ∃ b, v = .ref b ∧ H b = some (.tup (k.map kV)) := by
  rcases h with h | ⟨a, rfl, q⟩
  · cases h with
    | tup q r =>
      obtain ⟨q1, q2⟩ := keys_rel r e
      subst q1
      exact ⟨_, rfl, sm _ _ q⟩
  · exact q.elim
/-- an empty dict, taken as one of tuples, and back -/
theorem tagT {X : Cx} {pins : List (Addr × Obj)} {σ : L2.St} {H : Hp} {s : Shared} {a : Addr} (I : Inv X pins σ H s) (e : H a = some (.dK [])) : Inv X pins σ (upd H a (.dT [])) s := by
  obtain ⟨_, hd, vs, rel, o, es, ep, h1, h2, h3, h4, h5, h6⟩ := (show ObjOk X.prog X.w H s.heap a (.dK []) from I.hok a _ e)
  cases rel
  have he : es.toList = [] := by
    generalize es.toList = l at h5
    cases h5
    rfl
  exact I.write (x := a) (e := a) (h' := s.heap) (t' := s.toks) (by rw [e]; trivial) (.inl rfl) (fun _ _ _ q => q) ⟨o, h1⟩ ⟨Nat.zero_le _, hd, [], .nil, o, es, ep, h1, h2, h3, he, List.nodup_nil⟩
theorem tagK {X : Cx} {pins : List (Addr × Obj)} {σ : L2.St} {H : Hp} {s : Shared} {a : Addr} (I : Inv X pins σ (upd H a (.dT [])) s) (e : H a = some (.dK [])) : Inv X pins σ H s := by
  obtain ⟨_, hd, xs, rel, o, es, ep, h1, h2, h3, h4, h6⟩ := (show ObjOk X.prog X.w (upd H a (.dT [])) s.heap a (.dT []) from I.hok a _ upd_same)
  cases rel
  have he : es = #[] := by
    cases es
    exact congrArg _ h4
  have J := I.write (x := a) (e := a) (o := .dK []) (h' := s.heap) (t' := s.toks) (by rw [upd_same]; trivial) (.inl rfl) (fun _ _ _ q => q) ⟨o, h1⟩ ⟨Nat.zero_le _, hd, [], .nil, o, es, ep, h1, h2, h3, by subst he; intro x hx; simp at hx, by subst he; exact .nil, List.nodup_nil⟩
  have eH : upd (upd H a (.dT [])) a (.dK []) = H := by
    funext b
    by_cases hb : b = a
    · subst hb; rw [upd_same, e]
    · rw [upd_ne hb, upd_ne hb]
  rw [eH] at J
  exact J
theorem o_in (hu : X.A.units + 65 < cLine) : OpR X (compareOp .In) (rOp2 X.K inD) := by
  intro pins s σ H x y v u Q I rx ry ⟨F, d, e, r, sm, kx, ky, hf, g⟩
  unfold inD at hf
  split at hf
  · rename_i sx sy
    split at hf
    · rename_i c hc
      have ex : sx = ⟨#[c]⟩ := by
        have h0 : sx.cps = #[c] := by rw [← Array.toArray_toList (xs := sx.cps), hc]
        cases sx
        exact congrArg _ h0
      rw [kx.str, ex] at rx; rw [ky.str] at ry
      cases hf
      exact op_in_sign pins s σ H _ _ v u Q I rx ry ⟨c, sy, rfl, rfl, g.flat sm (.bl _)⟩
    · cases hf
  · rename_i ds
    split at hf
    case isFalse => cases hf
    rename_i hz
    cases hf
    exact op_inD hu pins s σ H x y v u Q I rx ry ⟨d, ds, dp_of d x (kx.rp sm) (SeqAt.canLay_of_shaped hz.1), dp_of _ y (ky.rp sm) (SeqAt.canLay_of_shaped hz.2), hz.1, hz.2, g.flat sm (.bl _)⟩
  · rename_i ds
    split at hf
    case isFalse => cases hf
    rename_i hz
    cases hf
    obtain ⟨as, r1⟩ := Dp.reads I d x v (dp_of d x (kx.rp sm) (SeqAt.canLay_of_shaped hz.1)) rx
    obtain ⟨bs, r2⟩ := Dp.reads I (.tuple ds) y u (dp_of _ y (ky.rp sm) (SeqAt.canLay_of_shaped hz.2)) ry
    exact SeqAt.in_tuple_reads r2 r1 (SeqAt.canLay_of_shaped hz.2) (SeqAt.canLay_of_shaped hz.1) (room_in_shaped hz.1 hu) ⟨.bl _, H, I, rfl, g.flat sm (.bl _)⟩
  · rename_i ts kvs
    obtain ⟨k, e1, hf⟩ := bind_some hf
    split at hf
    case isFalse => cases hf
    rename_i hz
    cases hf
    obtain ⟨b, rfl, hb⟩ := keyT_rel kx sm e1
    rcases dictT_at ky sm hz with ⟨a, rfl, h1, rfl⟩ | ⟨a, ks, ds, rfl, h1, h2, rfl⟩
    · cases ry
      have hab : b ≠ a := fun z => by subst z; rw [h1] at hb; cases hb
      refine d_in (by omega) (tagT I h1) (.t upd_same (by rw [upd_ne hab]; exact hb)) rx fun s' I' => ⟨.bl _, H, tagK I' h1, rfl, ?_⟩
      exact g.flat sm (.bl _)
    · cases ry
      have e3 : (valV ks k).isSome = (findT k ((ks.map fun p => PyData.tuple (p.1.map keyD)).zip ds)).isSome := by
        rcases find_valT k h2 with ⟨q1, q2⟩ | ⟨v', d', q1, q2, _⟩
        · rw [q1, q2]
          rfl
        · rw [q1, q2]
          rfl
      refine d_in (by omega) I (.inr ⟨ks, k, b, h1, rfl, hb, rfl⟩) rx fun s' I' => ⟨.bl _, H, I', rfl, ?_⟩
      rw [e3]
      exact g.flat sm (.bl _)
  · rename_i kvs
    obtain ⟨k, e1, hf⟩ := bind_some hf
    split at hf
    case isFalse => cases hf
    rename_i hz
    cases hf
    obtain ⟨a, ks, ds, rfl, h1, h2, rfl⟩ := dict_at ky sm hz
    cases ry
    have ex := key_rel kx e1
    subst ex
    have e3 : (valV ks k).isSome = (findK k ((ks.map fun p => keyD p.1).zip ds)).isSome := by
      rcases find_val k h2 with ⟨q1, q2⟩ | ⟨v', d', q1, q2, _⟩
      · rw [q1, q2]
        rfl
      · rw [q1, q2]
        rfl
    refine d_in (by omega) I (.inl ⟨ks, k, h1, rfl, rfl⟩) rx fun s' I' => ⟨.bl _, H, I', rfl, ?_⟩
    rw [e3]
    exact g.flat sm (.bl _)
  · cases hf
end

/-! ### subscripts, slices -/
def ixD : PyData → PyData → Option RV
  | .list ds, .int i => (atI ds i).bind fun d => some (.fz d)
  | .tuple ds, .int i => (atI ds i).bind fun d => some (.fz d)
  | .str z, .int i => if z.length ≤ lineN then (atI z.cps.toList i).bind fun c => fzS ⟨#[c]⟩ else none
  | .dict kvs, .tuple ts => (keysOf ts).bind fun k => if tupKs kvs = true then (findT k kvs).bind fun d => some (.fz d) else none
  | .dict kvs, d => (keyOf d).bind fun k => if flatKs kvs = true then (findK k kvs).bind fun d => some (.fz d) else none
  | _, _ => none
theorem rp_at {K : PySem.W.Frag} {F : Hp} {vs : List V} {ds : List PyData} {i : Int} {d : PyData} (h : RpAll K F vs ds) (e : atI ds i = some d) : ∃ v, atI vs i = some v ∧ Rp K F v d := by
  unfold atI at e ⊢
  obtain ⟨j, e1, e2⟩ := bind_some e
  obtain ⟨v, h1, h2⟩ := h.get e2
  exact ⟨v, by rw [h.length, e1]; exact h1, h2⟩
/-- a part of a list -/
def cutD (ds : List PyData) (lo hi : Option Int) : List PyData := (ds.drop (HT.sIx ds.length 0 lo)).take (HT.sIx ds.length ds.length hi - HT.sIx ds.length 0 lo)
theorem rp_cut {K : PySem.W.Frag} {F : Hp} {vs : List V} {ds : List PyData} (h : RpAll K F vs ds) (lo hi : Option Int) : RpAll K F (cutV vs lo hi) (cutD ds lo hi) := by
  unfold cutV cutD
  rw [h.length]
  exact (h.drop _).take _
def slD : PyData → Option Int → Option Int → Option RV
  | .list ds, lo, hi => some (.own (.list (cutD ds lo hi)))
  | .tuple ds, lo, hi => some (.fz (.tuple (cutD ds lo hi)))
  | .str z, lo, hi => if z.length ≤ lineN then fzS (cutS z lo hi) else none
  | _, _, _ => none
def rSl (K : PySem.W.Frag) (f : PyData → Option Int → Option Int → Option RV) : V → Option Int → Option Int → Hp → VK → Prop := fun x lo hi H Q => ∃ F d r, Same F H ∧ Rk K F H x d ∧ f d lo hi = some r ∧ Gives K F H Q r
abbrev MO := MEnv → Option (MEnv × Option Int)
def oNo : MO := fun env => some (env, none)
def oSm (m : ME) : MO := fun env => (m env).bind fun p => (intOf p.2).bind fun i => some (p.1, some i)
def tO (K : PySem.W.Frag) (m : MO) : TO := fun σ H Q => ∃ F env, Abs K F H σ env ∧ ∃ env' o, m env = some (env', o) ∧ ∀ F' H', Abs K F' H' σ env' → Frm F H σ env F' H' σ env' → Q o H'
def eSl (f : PyData → Option Int → Option Int → Option RV) (m : ME) (l h : MO) : ME := fun env => (m env).bind fun p => (l p.1).bind fun q => (h q.1).bind fun s => (p.2.view s.1).bind fun d => (f d q.2 s.2).bind fun r => some (s.1, r)
section
variable {X : Cx} {e : Expr} {m : ME} {l h : MO} {pos p2 : Pos}
theorem o_ix (hu : X.A.units + 65 < cLine) : IxR X (rOp2 X.K ixD) := by
  intro value slice pins s σ H x y v u Q I rx ry ⟨F, d, e, r, sm, kx, ky, hf, g⟩ hs
  unfold ixD at hf
  split at hf
  · obtain ⟨d, e1, hf⟩ := bind_some hf
    cases hf
    rw [ky.int] at ry
    obtain ⟨a, xs, rfl, h1, r1⟩ := kx.lst sm
    obtain ⟨w, e2, rw'⟩ := rp_at r1 e1
    exact ix_list value slice pins s σ H _ _ v u Q I rx ry ⟨a, xs, _, w, rfl, rfl, h1, e2, g.flat sm rw'⟩ hs
  · obtain ⟨d, e1, hf⟩ := bind_some hf
    cases hf
    rw [ky.int] at ry
    obtain ⟨a, xs, rfl, h1, r1⟩ := kx.tup sm
    obtain ⟨w, e2, rw'⟩ := rp_at r1 e1
    exact ix_tup value slice pins s σ H _ _ v u Q I rx ry ⟨a, xs, _, w, rfl, rfl, h1, e2, g.flat sm rw'⟩ hs
  · split at hf
    · rename_i hz
      obtain ⟨c, e1, hf⟩ := bind_some hf
      cases hf
      rw [ky.int] at ry; rw [kx.str] at rx
      exact ix_str value slice pins s σ H _ _ v u Q I rx ry ⟨_, _, c, rfl, rfl, line_le hz, e1, g.flat sm (.str _)⟩ hs
    · cases hf
  · rename_i kvs ts
    obtain ⟨k, e1, hf⟩ := bind_some hf
    split at hf
    case isFalse => cases hf
    rename_i hz
    obtain ⟨d, e2, hf⟩ := bind_some hf
    cases hf
    obtain ⟨b, rfl, hb⟩ := keyT_rel ky sm e1
    rcases dictT_at kx sm hz with ⟨a, rfl, h1, rfl⟩ | ⟨a, ks, ds, rfl, h1, h2, rfl⟩
    · cases e2
    · rcases find_valT k h2 with ⟨q1, q2⟩ | ⟨v', d', q1, q2, q3⟩
      · rw [q2] at e2; cases e2
      · rw [q2] at e2; cases e2
        cases rx
        have g1 : DGet H a (.ref b) (some v') := .inr ⟨ks, k, b, h1, rfl, hb, q1.symm⟩
        exact tail_any (dict_typeIs I g1) PySem.F.slot_dict_getitem.lookup (d_getItem (by omega) I g1 ry fun w' s3 I3 rw' => ⟨v', H, I3, rw', g.flat sm q3⟩) hs
  · rename_i kvs
    obtain ⟨k, e1, hf⟩ := bind_some hf
    split at hf
    case isFalse => cases hf
    rename_i hz
    obtain ⟨d', e2, hf⟩ := bind_some hf
    cases hf
    obtain ⟨a, ks, ds, rfl, h1, h2, rfl⟩ := dict_at kx sm hz
    cases rx
    have ex := key_rel ky e1
    subst ex
    rcases find_val k h2 with ⟨q1, q2⟩ | ⟨v', d2, q1, q2, q3⟩
    · rw [q2] at e2
      cases e2
    · rw [q2] at e2
      cases e2
      have g1 : DGet H a (kV k) (some v') := .inl ⟨ks, k, h1, rfl, q1.symm⟩
      exact tail_any (dict_typeIs I g1) PySem.F.slot_dict_getitem.lookup (d_getItem (by omega) I g1 ry fun w' s3 I3 rw' => ⟨v', H, I3, rw', g.flat sm q3⟩) hs
  · cases hf
theorem po_imp {o : Option Expr} {t t' : TO} (hh : PO X o t) (i : ∀ σ H Q, t' σ H Q → t σ H Q) : PO X o t' := ⟨fun pins s σ H Q I q => hh.run pins s σ H Q I (i σ H Q q)⟩
theorem ro_no : PO X none (tO X.K oNo) := po_imp po_none fun σ H Q ⟨F, env, A, env', o, em, k⟩ => by
  cases em
  exact k F H A (Frm.refl _ _ _ _)
theorem ro_sm (he : PE X e (tE X.K m)) : PO X (some e) (tO X.K (oSm m)) := po_imp (po_some he) fun σ H Q ⟨F, env, A, env', o, em, k⟩ => by
  obtain ⟨⟨env1, r⟩, e1, em⟩ := bind_some em
  obtain ⟨i, e2, em⟩ := bind_some em
  cases em
  have e2' : r = .fz (.int i) := intOf_some e2
  subst e2'
  refine ⟨F, env, A, env1, _, e1, fun v F1 H1 A1 f1 o1 n1 => ?_⟩
  cases (show Rp X.K F1 v (.int i) from o1)
  exact ⟨i, rfl, k F1 H1 A1 f1⟩
theorem o_sl : SlR X (rSl X.K slD) := by
  intro pins s σ H x v vl vu lo hi sl Q I rx hs pl pu ⟨F, d, r, sm, kx, hf, g⟩
  unfold slD at hf
  split at hf
  · cases hf
    obtain ⟨a, xs, rfl, h1, r1⟩ := kx.lst sm
    exact sl_list pins s σ H _ v vl vu lo hi sl Q I rx hs pl pu ⟨a, xs, rfl, h1, fun p hp => g.newList sm (rp_cut r1 lo hi) hp⟩
  · cases hf
    obtain ⟨a, xs, rfl, h1, r1⟩ := kx.tup sm
    refine sl_tupA pins s σ H _ v vl vu lo hi sl Q I rx hs pl pu ⟨a, xs, rfl, h1, fun hw => ?_, fun _ p hp => g.newTup sm (rp_cut r1 lo hi) hp⟩
    have ec : ∀ ds : List PyData, ds.length = xs.length → cutD ds lo hi = ds := fun ds hl => by
      unfold cutD
      rw [hl, hw.1, hw.2, List.drop_zero, Nat.sub_zero, ← hl, List.take_length]
    rw [ec _ r1.length.symm] at g
    exact g.flat sm kx.tupF
  · split at hf
    · rename_i hz
      cases hf
      rw [kx.str] at rx
      exact sl_str pins s σ H _ v vl vu lo hi sl Q I rx hs pl pu ⟨_, rfl, line_le hz, g.flat sm (.str _)⟩
    · cases hf
  · cases hf
theorem sl_to {K : PySem.W.Frag} {f : PyData → Option Int → Option Int → Option RV} {σ : L2.St} {H : Hp} {Q : VK} (hh : tE K (eSl f m l h) σ H Q) : tSl (rSl K f) (tE K m) (tO K l) (tO K h) σ H Q := by
  obtain ⟨F, env, A, env', r, em, k⟩ := hh
  obtain ⟨⟨env1, r1⟩, e1, em⟩ := bind_some em
  obtain ⟨⟨env2, o2⟩, e2, em⟩ := bind_some em
  obtain ⟨⟨env3, o3⟩, e3, em⟩ := bind_some em
  obtain ⟨d, e4, em⟩ := bind_some em
  obtain ⟨r', e5, em⟩ := bind_some em
  cases em
  exact ⟨F, env, A, env1, r1, e1, fun v F1 H1 A1 f1 o1 n1 => ⟨F1, env1, A1, env2, o2, e2, fun F2 H2 A2 f2 => ⟨F2, env2, A2, env3, o3, e3, fun F3 H3 A3 f3 =>
    ⟨F3, d, _, A3.same, RV.ok.rk (RV.ok.keep (RV.ok.keep o1 f2) f3) A3 e4, e5, gives_to A3 ((f1.trans f2).trans f3) k⟩⟩⟩⟩
theorem re_sl {lo hi : Option Expr} (he : PE X e (tE X.K m)) (hl : PO X lo (tO X.K l)) (hu : PO X hi (tO X.K h)) : PE X (.Subscript e (.Slice lo hi none p2) pos) (tE X.K (eSl slD m l h)) := pe_imp (pe_slice o_sl he hl hu) fun _ _ _ => sl_to
end

/-! ### built-ins -/
def lenD : List PyData → Option RV
  | [.str x] => if x.length ≤ lineN then fzI x.length else none
  | [.list ds] => fzI ds.length
  | [.tuple ds] => fzI ds.length
  | _ => none
def absD : List PyData → Option RV
  | [.int i] => fzI (if i < 0 then -i else i)
  | _ => none
def maxD : List PyData → Option RV
  | [.int i, .int j] => fzI (if j > i then j else i)
  | _ => none
def minD : List PyData → Option RV
  | [.int i, .int j] => fzI (if j < i then j else i)
  | _ => none
def intD : List PyData → Option RV
  | [.int i] => fzI i
  | [.bool k] => fzI (if k then 1 else 0)
  | _ => none
def strD : List PyData → Option RV
  | [.int i] => if i.natAbs.log2 < 1920 then fzS (toString i) else none
  | _ => none
def listD : List PyData → Option RV
  | [.list ds] => some (.own (.list ds))
  | [.tuple ds] => some (.own (.list ds))
  | [.str x] => if x.length ≤ lineN then some (.own (.list (x.cps.toList.map fun c => .str ⟨#[c]⟩))) else none
  | _ => none
def tupleD : List PyData → Option RV
  | [.list ds] => some (.fz (.tuple ds))
  | [.tuple ds] => some (.fz (.tuple ds))
  | [.str x] => if x.length ≤ lineN then some (.fz (.tuple (x.cps.toList.map fun c => .str ⟨#[c]⟩))) else none
  | _ => none
def boolsOf : List PyData → Option (List Bool)
  | [] => some []
  | .bool b :: ds => (boolsOf ds).bind fun bs => some (b :: bs)
  | _ => none
def allD : List PyData → Option RV
  | [.list ds] => (boolsOf ds).bind fun bs => fzB (bs.all id)
  | _ => none
def anyD : List PyData → Option RV
  | [.list ds] => (boolsOf ds).bind fun bs => fzB (bs.any id)
  | _ => none
theorem rk1 {K : PySem.W.Frag} {F H : Hp} {vs : List V} {d : PyData} (h : RkAll K F H vs [d]) : ∃ v, vs = [v] ∧ Rk K F H v d := by
  cases h with
  | cons a t => cases t; exact ⟨_, rfl, a⟩
theorem rk2 {K : PySem.W.Frag} {F H : Hp} {vs : List V} {d e : PyData} (h : RkAll K F H vs [d, e]) : ∃ v u, vs = [v, u] ∧ Rk K F H v d ∧ Rk K F H u e := by
  cases h with
  | cons a t =>
    obtain ⟨u, rfl, b⟩ := rk1 t
    exact ⟨_, u, rfl, a, b⟩
theorem rp_bools {K : PySem.W.Frag} {F : Hp} : ∀ {ds : List PyData} {vs : List V} {bs : List Bool}, RpAll K F vs ds → boolsOf ds = some bs → vs = bs.map V.bl
  | [], _, _, h, e => by cases h; cases e; rfl
  | .bool b :: ds, _, _, h, e => by
    obtain ⟨bs, e1, e2⟩ := bind_some e
    cases e2
    cases h with
    | cons a t =>
      cases a
      rw [List.map_cons, ← rp_bools t e1]
  | .none :: _, _, _, _, e => by cases e
  | .int _ :: _, _, _, _, e => by cases e
  | .str _ :: _, _, _, _, e => by cases e
  | .list _ :: _, _, _, _, e => by cases e
  | .tuple _ :: _, _, _, _, e => by cases e
  | .dict _ :: _, _, _, _, e => by cases e
/-- the signs of a text as values -/
def signV (x : Str) : List V := x.cps.toList.map fun c => .str ⟨#[c]⟩
def signD (x : Str) : List PyData := x.cps.toList.map fun c => .str ⟨#[c]⟩
theorem rp_signs {K : PySem.W.Frag} {F : Hp} (x : Str) : RpAll K F (signV x) (signD x) := by
  unfold signV signD
  induction x.cps.toList with
  | nil => exact .nil
  | cons c r ih => exact .cons (.str _) ih
theorem signs_vals {x : Str} {acc : Array Value} (h : ItemsOf (SignAt x) acc x.cps.size) : Vals (signV x) acc.toList := by
  obtain ⟨hs, hi⟩ := h
  have gen : ∀ (l : List Nat) (us : List Value), l.length = us.length → (∀ (i c : Nat) (u : Value), l[i]? = some c → us[i]? = some u → RelV (.str ⟨#[c]⟩) u) → Vals (l.map fun c => V.str ⟨#[c]⟩) us := by
    intro l
    induction l with
    | nil => intro us hl _; cases us with | nil => exact .nil | cons _ _ => cases hl
    | cons c r ih =>
      intro us hl hh
      cases us with
      | nil => cases hl
      | cons u us => exact .cons (hh 0 c u rfl rfl) (ih us (by simpa using hl) fun i c u e1 e2 => hh (i + 1) c u (by simpa using e1) (by simpa using e2))
  refine gen _ _ (by simp [hs]) fun i c u e1 e2 => ?_
  have hx : x.cps[i]? = some c := by rw [← Array.getElem?_toList]; exact e1
  have hu : acc[i]? = some u := by rw [← Array.getElem?_toList]; exact e2
  obtain ⟨c', tk, hc', e⟩ := hi i u hu
  rw [hx] at hc'
  cases hc'
  exact ⟨tk, e⟩
end L3

/-! L3I: built-ins as rules, methods of texts, walks over texts, displays of dicts, stores into owned lists. -/
namespace L3
open PySem PySem.Spec PyProof.Rows L2

section
variable {X : Cx}
theorem c_len : CallR X (.builtin "len") (rCall X.K lenD) := by
  intro pins s σ H xs us Q I r ⟨F, ds, z, sm, kx, hf, g⟩
  unfold lenD at hf
  split at hf
  · split at hf
    · rename_i hz
      cases hf
      obtain ⟨v, rfl, k⟩ := rk1 kx
      exact call_len pins s σ H _ us Q I r ⟨v, _, rfl, by rw [k.str]; exact ⟨line_le hz, rfl⟩, g.flat sm (.int _)⟩
    · cases hf
  · cases hf
    obtain ⟨v, rfl, k⟩ := rk1 kx
    obtain ⟨a, ys, rfl, h1, r1⟩ := k.lst sm
    exact call_len pins s σ H _ us Q I r ⟨_, _, rfl, .inl ⟨ys, h1, r1.length.symm⟩, g.flat sm (.int _)⟩
  · cases hf
    obtain ⟨v, rfl, k⟩ := rk1 kx
    obtain ⟨a, ys, rfl, h1, r1⟩ := k.tup sm
    exact call_len pins s σ H _ us Q I r ⟨_, _, rfl, .inr ⟨ys, h1, r1.length.symm⟩, g.flat sm (.int _)⟩
  · cases hf
theorem c_abs : CallR X (.builtin "abs") (rCall X.K absD) := by
  intro pins s σ H xs us Q I r ⟨F, ds, z, sm, kx, hf, g⟩
  unfold absD at hf
  split at hf
  · cases hf
    obtain ⟨v, rfl, k⟩ := rk1 kx
    exact call_abs pins s σ H _ us Q I r ⟨_, by rw [k.int], g.flat sm (.int _)⟩
  · cases hf
theorem c_max (hc : X.calm = true) : CallR X (.builtin "max") (rCall X.K maxD) := by
  intro pins s σ H xs us Q I r ⟨F, ds, z, sm, kx, hf, g⟩
  unfold maxD at hf
  split at hf
  · cases hf
    obtain ⟨v, u, rfl, k1, k2⟩ := rk2 kx
    exact call_max2 hc pins s σ H _ us Q I r ⟨_, _, by rw [k1.int, k2.int], g.flat sm (.int _)⟩
  · cases hf
theorem c_min (hc : X.calm = true) : CallR X (.builtin "min") (rCall X.K minD) := by
  intro pins s σ H xs us Q I r ⟨F, ds, z, sm, kx, hf, g⟩
  unfold minD at hf
  split at hf
  · cases hf
    obtain ⟨v, u, rfl, k1, k2⟩ := rk2 kx
    exact call_min2 hc pins s σ H _ us Q I r ⟨_, _, by rw [k1.int, k2.int], g.flat sm (.int _)⟩
  · cases hf
theorem c_int : CallR X (.type "int") (rCall X.K intD) := by
  intro pins s σ H xs us Q I r ⟨F, ds, z, sm, kx, hf, g⟩
  unfold intD at hf
  split at hf
  · cases hf
    obtain ⟨v, rfl, k⟩ := rk1 kx
    exact call_int1 pins s σ H _ us Q I r (.inl ⟨_, by rw [k.int], g.flat sm (.int _)⟩)
  · cases hf
    obtain ⟨v, rfl, k⟩ := rk1 kx
    exact call_int1 pins s σ H _ us Q I r (.inr ⟨_, by rw [k.bl], g.flat sm (.int _)⟩)
  · cases hf
theorem c_str : CallR X (.type "str") (rCall X.K strD) := by
  intro pins s σ H xs us Q I r ⟨F, ds, z, sm, kx, hf, g⟩
  unfold strD at hf
  split at hf
  · split at hf
    · rename_i hz
      cases hf
      obtain ⟨v, rfl, k⟩ := rk1 kx
      exact call_str_int pins s σ H _ us Q I r ⟨_, by rw [k.int], hz, g.flat sm (.str _)⟩
    · cases hf
  · cases hf
theorem c_list (hc : X.calm = true) : CallR X (.type "list") (rCall X.K listD) := by
  intro pins s σ H xs us Q I r ⟨F, ds, z, sm, kx, hf, g⟩
  unfold listD at hf
  split at hf
  · cases hf
    obtain ⟨v, rfl, k⟩ := rk1 kx
    obtain ⟨a, ys, rfl, h1, r1⟩ := k.lst sm
    exact call_list_of pins s σ H _ us Q I r ⟨a, ys, rfl, .inl h1, fun l hl => g.newList sm r1 hl⟩
  · cases hf
    obtain ⟨v, rfl, k⟩ := rk1 kx
    obtain ⟨a, ys, rfl, h1, r1⟩ := k.tup sm
    exact call_list_of pins s σ H _ us Q I r ⟨a, ys, rfl, .inr h1, fun l hl => g.newList sm r1 hl⟩
  · split at hf
    · rename_i x hz
      cases hf
      obtain ⟨v, rfl, k⟩ := rk1 kx
      rw [k.str] at r
      cases r with
      | cons ru rn =>
        cases rn
        obtain ⟨t, rfl⟩ := ru
        have hn : x.cps.size ≤ sizeLine := line_le hz
        refine call_list_str (I.ok.hd hc) x t (fun h' tk acc' c' hk e hit => ?_) hn
        have vv := signs_vals hit
        have hl : (signV x).length ≤ sizeLine := by simpa [signV] using hn
        refine ⟨.ref _, _, I.laid (t' := tk) hk (Nat.le_refl _) (show ObjOk X.prog X.w _ h' _ (.lst (signV x)) from ⟨hl, acc'.toList, c', vv, by simpa using e⟩), rfl, g.newList sm (rp_signs x) I.fresh⟩
    · cases hf
  · cases hf
theorem c_tuple (hc : X.calm = true) : CallR X (.type "tuple") (rCall X.K tupleD) := by
  intro pins s σ H xs us Q I r ⟨F, ds, z, sm, kx, hf, g⟩
  unfold tupleD at hf
  split at hf
  · cases hf
    obtain ⟨v, rfl, k⟩ := rk1 kx
    obtain ⟨a, ys, rfl, h1, r1⟩ := k.lst sm
    exact call_tuple_of pins s σ H _ us Q I r ⟨a, ys, rfl, .inl ⟨h1, fun l hl => g.newTup sm r1 hl⟩⟩
  · cases hf
    obtain ⟨v, rfl, k⟩ := rk1 kx
    obtain ⟨a, ys, rfl, h1, r1⟩ := k.tup sm
    exact call_tuple_of pins s σ H _ us Q I r ⟨a, ys, rfl, .inr ⟨h1, g.flat sm k.tupF⟩⟩
  · split at hf
    · rename_i x hz
      cases hf
      obtain ⟨v, rfl, k⟩ := rk1 kx
      rw [k.str] at r
      cases r with
      | cons ru rn =>
        cases rn
        obtain ⟨t, rfl⟩ := ru
        have hn : x.cps.size ≤ sizeLine := line_le hz
        refine call_tuple_str (I.ok.hd hc) x t (fun h' tk acc' hk hit => ?_) hn
        have vv := signs_vals hit
        have hl : (signV x).length ≤ sizeLine := by simpa [signV] using hn
        have I1 : Inv X pins σ H { s with heap := h', toks := tk } := I.kept (t' := tk) hk
        have I2 : Inv X pins σ (upd H h'.objs.size (.tup (signV x))) { s with heap := h'.push { cls := .type "tuple", data := .seq acc' }, toks := tk } :=
          I1.laid (t' := tk) (fun b o e => Heap.get?_push_of_some _ e) (Nat.le_refl _) (show ObjOk X.prog X.w _ _ _ (.tup (signV x)) from ⟨hl, acc'.toList, vv, by simpa using IsTup.new h' acc'⟩)
        exact ⟨.ref h'.objs.size, _, I2, rfl, g.newTup sm (rp_signs x) (I1.hok.fresh (Nat.le_refl _))⟩
    · cases hf
  · cases hf
theorem c_all (hc : X.calm = true) : CallR X (.builtin "all") (rCall X.K allD) := by
  intro pins s σ H xs us Q I r ⟨F, ds, z, sm, kx, hf, g⟩
  unfold allD at hf
  split at hf
  · obtain ⟨bs, e1, hf⟩ := bind_some hf
    cases hf
    obtain ⟨v, rfl, k⟩ := rk1 kx
    obtain ⟨a, ys, rfl, h1, r1⟩ := k.lst sm
    rw [rp_bools r1 e1] at h1
    exact cr_all hc pins s σ H _ us Q I r ⟨a, bs, rfl, h1, g.flat sm (.bl _)⟩
  · cases hf
theorem c_any (hc : X.calm = true) : CallR X (.builtin "any") (rCall X.K anyD) := by
  intro pins s σ H xs us Q I r ⟨F, ds, z, sm, kx, hf, g⟩
  unfold anyD at hf
  split at hf
  · obtain ⟨bs, e1, hf⟩ := bind_some hf
    cases hf
    obtain ⟨v, rfl, k⟩ := rk1 kx
    obtain ⟨a, ys, rfl, h1, r1⟩ := k.lst sm
    rw [rp_bools r1 e1] at h1
    exact cr_any hc pins s σ H _ us Q I r ⟨a, bs, rfl, h1, g.flat sm (.bl _)⟩
  · cases hf
end

/-! ### methods of texts -/
def strsOf : List PyData → Option (List Str)
  | [] => some []
  | .str x :: ds => (strsOf ds).bind fun xs => some (x :: xs)
  | _ => none
theorem rp_strs {K : PySem.W.Frag} {F : Hp} : ∀ {ds : List PyData} {vs : List V} {xs : List Str}, RpAll K F vs ds → strsOf ds = some xs → vs = xs.map V.str
  | [], _, _, h, e => by cases h; cases e; rfl
  | .str b :: ds, _, _, h, e => by
    obtain ⟨bs, e1, e2⟩ := bind_some e
    cases e2
    cases h with
    | cons a t =>
      cases a
      rw [List.map_cons, ← rp_strs t e1]
  | .none :: _, _, _, _, e => by cases e
  | .int _ :: _, _, _, _, e => by cases e
  | .bool _ :: _, _, _, _, e => by cases e
  | .list _ :: _, _, _, _, e => by cases e
  | .tuple _ :: _, _, _, _, e => by cases e
  | .dict _ :: _, _, _, _, e => by cases e
def joinD : Str → PyData → Option RV
  | a, .list ds => (strsOf ds).bind fun ys => if (ys.map (·.length)).sum + ys.length * a.length ≤ lineN then fzS (Txt.join a ys) else none
  | a, .tuple ds => (strsOf ds).bind fun ys => if (ys.map (·.length)).sum + ys.length * a.length ≤ lineN then fzS (Txt.join a ys) else none
  | _, _ => none
def upperD : Str → Option RV := fun a => if a.length ≤ 5592405 then fzS (Txt.upper a) else none
def rM0 (K : PySem.W.Frag) (f : Str → Option RV) : V → List V → Hp → VK → Prop := fun x xs H Q => ∃ F z r, x = .str z ∧ xs = [] ∧ Same F H ∧ f z = some r ∧ Gives K F H Q r
def rM1 (K : PySem.W.Frag) (f : Str → PyData → Option RV) : V → List V → Hp → VK → Prop := fun x xs H Q => ∃ F z v d r, x = .str z ∧ xs = [v] ∧ Same F H ∧ Rk K F H v d ∧ f z d = some r ∧ Gives K F H Q r
def strOf : RV → Option Str
  | .fz (.str x) => some x
  | _ => none
theorem strOf_some {r : RV} {x : Str} (h : strOf r = some x) : r = .fz (.str x) := by
  unfold strOf at h
  split at h
  · cases h; rfl
  · cases h
def eM0 (f : Str → Option RV) (mo : ME) : ME := fun env => (mo env).bind fun p => (strOf p.2).bind fun z => (f z).bind fun r => some (p.1, r)
def eM1 (f : Str → PyData → Option RV) (mo m : ME) : ME := fun env => (mo env).bind fun p => (strOf p.2).bind fun z => (m p.1).bind fun q => (q.2.view q.1).bind fun d => (f z d).bind fun r => some (q.1, r)
section
variable {X : Cx} {o e : Expr} {mo m : ME} {id : String} {name : Str} {apos pos : Pos} {f0 : Str → Option RV} {f1 : Str → PyData → Option RV}
theorem re_m0 (slot : Slot "str" name id) (ty : typeOf (.builtin id) = pure (.type "method_descriptor")) (rule : MtR X id (rM0 X.K f0)) (ho : PE X o (tE X.K mo))
    (hbase : attributeBase o name X.env (eval o X.env) = eval o X.env := by rfl) (hline : (apos.endLine == pos.line) = true := by rfl) : PE X (.Call (.Attribute o name apos) [] [] pos) (tE X.K (eM0 f0 mo)) := by
  refine pe_imp (pe_m0 slot ty rule ho hbase hline) fun σ H Q ⟨F, env, A, env', r, em, k⟩ => ?_
  obtain ⟨⟨env1, r1⟩, e1, em⟩ := bind_some em
  obtain ⟨z, e2, em⟩ := bind_some em
  obtain ⟨r', e3, em⟩ := bind_some em
  cases em
  have e2' : r1 = .fz (.str z) := strOf_some e2
  subst e2'
  refine ⟨F, env, A, env1, _, e1, fun v F1 H1 A1 f1 o1 n1 => ?_⟩
  cases (show Rp X.K F1 v (.str z) from o1)
  exact ⟨⟨z, rfl⟩, F1, z, _, rfl, rfl, A1.same, e3, gives_to A1 f1 k⟩
theorem re_m1 (slot : Slot "str" name id) (ty : typeOf (.builtin id) = pure (.type "method_descriptor")) (rule : MtR X id (rM1 X.K f1)) (ho : PE X o (tE X.K mo)) (he : PE X e (tE X.K m))
    (hs : starEach [e] X.env = [(false, eval e X.env)] := by rfl) (hbase : attributeBase o name X.env (eval o X.env) = eval o X.env := by rfl) (hline : (apos.endLine == pos.line) = true := by rfl) : PE X (.Call (.Attribute o name apos) [e] [] pos) (tE X.K (eM1 f1 mo m)) := by
  refine pe_imp (pe_m1 slot ty rule ho he hs hbase hline) fun σ H Q ⟨F, env, A, env', r, em, k⟩ => ?_
  obtain ⟨⟨env1, r1⟩, e1, em⟩ := bind_some em
  obtain ⟨z, e2, em⟩ := bind_some em
  obtain ⟨⟨env2, r2⟩, e3, em⟩ := bind_some em
  obtain ⟨d, e4, em⟩ := bind_some em
  obtain ⟨r', e5, em⟩ := bind_some em
  cases em
  have e2' : r1 = .fz (.str z) := strOf_some e2
  subst e2'
  refine ⟨F, env, A, env1, _, e1, fun v F1 H1 A1 f1 o1 n1 => ?_⟩
  cases (show Rp X.K F1 v (.str z) from o1)
  exact ⟨⟨z, rfl⟩, F1, env1, A1, env2, r2, e3, fun u F2 H2 A2 f2 o2 n2 => ⟨F2, z, u, d, _, rfl, rfl, A2.same, RV.ok.rk o2 A2 e4, e5, gives_to A2 (f1.trans f2) k⟩⟩
theorem m_upper : MtR X "str.upper" (rM0 X.K upperD) := by
  intro pins s σ H x xs v us Q I rx rs ⟨F, z, r, ex, exs, sm, hf, g⟩
  subst ex exs
  unfold upperD at hf
  split at hf
  · rename_i hz
    cases hf
    exact mt_upper pins s σ H _ _ v us Q I rx rs ⟨z, rfl, rfl, hz, g.flat sm (.str _)⟩
  · cases hf
theorem m_join : MtR X "str.join" (rM1 X.K joinD) := by
  intro pins s σ H x xs v us Q I rx rs ⟨F, z, u, d, r, ex, exs, sm, kd, hf, g⟩
  subst ex exs
  unfold joinD at hf
  split at hf
  · obtain ⟨ys, e1, hf⟩ := bind_some hf
    split at hf
    · rename_i hz
      cases hf
      obtain ⟨a, zs, rfl, h1, r1⟩ := kd.lst sm
      rw [rp_strs r1 e1] at h1
      exact mt_join pins s σ H _ _ v us Q I rx rs ⟨_, a, ys, rfl, rfl, .inl h1, hz, g.flat sm (.str _)⟩
    · cases hf
  · obtain ⟨ys, e1, hf⟩ := bind_some hf
    split at hf
    · rename_i hz
      cases hf
      obtain ⟨a, zs, rfl, h1, r1⟩ := kd.tup sm
      rw [rp_strs r1 e1] at h1
      exact mt_join pins s σ H _ _ v us Q I rx rs ⟨_, a, ys, rfl, rfl, .inr h1, hz, g.flat sm (.str _)⟩
    · cases hf
  · cases hf
end

/-! ### text * number -/
def repS (x : Str) (n : Nat) : Str := ⟨(List.replicate n x.cps).foldl (· ++ ·) #[]⟩
def mulSD : PyData → PyData → Option RV
  | .str x, .int n => if n = 1 then fzS x else if 2 ≤ n ∧ n ≤ 1000 ∧ 1 ≤ x.length ∧ x.length ≤ 1000 then fzS (repS x n.toNat) else none
  | d, e => mulD d e
theorem rep_size (a : Array Nat) : ∀ (n : Nat) (b : Array Nat), ((List.replicate n a).foldl (· ++ ·) b).size = b.size + n * a.size
  | 0, b => by simp
  | n + 1, b => by
    rw [List.replicate_succ, List.foldl_cons, rep_size a n, Array.size_append, Nat.succ_mul]
    omega
theorem repS_len (x : Str) (n : Nat) : (repS x n).length = n * x.length := by
  show ((List.replicate n x.cps).foldl (· ++ ·) #[]).size = _
  rw [rep_size]
  simp [Str.length]
theorem o_mulS {X : Cx} : OpR X (binaryOp .Mult) (rOp2 X.K mulSD) := by
  intro pins s σ H x y v u Q I rx ry ⟨F, d, e, r, sm, kx, ky, hf, g⟩
  unfold mulSD at hf
  split at hf
  · rename_i z n
    split at hf
    · rename_i h1
      subst h1
      rw [kx.str] at rx; rw [ky.int] at ry
      obtain ⟨t, rfl⟩ := rx
      obtain ⟨t', rfl⟩ := ry
      cases hf
      refine PySem.P.mul_str (by decide) (fun _ q => ?_) (fun _ q => ?_) ?_
      · simp at q
      · simp at q
      · rw [if_neg (by decide), if_pos (by simp)]
        exact ⟨.str _, H, I, ⟨_, rfl⟩, g.flat sm (.str _)⟩
    split at hf
    · rename_i hz
      obtain ⟨h1, h2, h3, h4⟩ := hz
      rw [kx.str] at rx; rw [ky.int] at ry
      obtain ⟨t, rfl⟩ := rx
      obtain ⟨t', rfl⟩ := ry
      cases hf
      have hb : (n == 1 || z.length == 0) = false := by
        have e1 : (n == 1) = false := by rw [beq_eq_false_iff_ne]; omega
        have e2 : (z.length == 0) = false := by rw [beq_eq_false_iff_ne]; omega
        rw [e1, e2]
        rfl
      have hlen : z.length * n.toNat ≤ 1000000 := Nat.le_trans (Nat.mul_le_mul h4 (by omega : n.toNat ≤ 1000)) (by decide)
      refine PySem.P.mul_str ?_ (fun _ _ => ?_) (fun _ _ => ?_) ?_
      · rw [decide_eq_false (by omega), decide_eq_false (by omega)]
        rfl
      · intro q
        have q1 : (1000 : Int) ≤ (2 ^ 63 - 1) / n := by
          rw [Int.le_ediv_iff_mul_le (by omega)]
          omega
        omega
      · exact decide_eq_false (by rw [sizeLine_eq]; omega)
      · rw [if_neg (by omega), if_neg (by rw [hb]; exact Bool.false_ne_true)]
        exact ⟨by show (repS z n.toNat).length ≤ sizeLine; rw [repS_len, sizeLine_eq, Nat.mul_comm]; omega, ⟨.str _, H, I.tok _, ⟨_, rfl⟩, g.flat sm (.str _)⟩⟩
    · cases hf
  · exact o_mul pins s σ H x y v u Q I rx ry ⟨F, d, e, r, sm, kx, ky, hf, g⟩
end L3

/-! L3J: walks over texts, displays of dicts, stores into owned lists. -/
namespace L3
open PySem PySem.Spec PyProof.Rows L2

/-! ### any walked thing: a list, a tuple, a text -/
def iAny (m : ME) : MI := fun env => (m env).bind fun p => (p.2.fix p.1).bind fun q => match q.2 with
  | .list ds => some (q.1, ds)
  | .tuple ds => some (q.1, ds)
  | .str x => some (q.1, signD x)
  | _ => none
theorem it_text {K : PySem.W.Frag} {F : Hp} (x : Str) : ItOk K (Its x) F (signD x) where
  stop := fun H s => by simp [Its, signD]
  go := fun i H s hi => by simpa [Its, signD] using hi
  yld := fun i H G v H' d s s' y e => by
    obtain ⟨rfl, c, hc, rfl⟩ := y
    have e' : (x.cps.toList[i]?).map (fun c => PyData.str ⟨#[c]⟩) = some d := by
      unfold signD at e
      rw [List.getElem?_map] at e
      exact e
    rw [Array.getElem?_toList, hc] at e'
    cases e'
    exact ⟨G, Same.refl _, Same.refl _, s', fun _ _ h => .inl h, .str _⟩
section
variable {X : Cx} {tg : Expr} {m : ME}
theorem pi_three {l : Expr} {tl : TE} (hl : PE X l tl) : PI X tg l (fun σ H R => tl σ H fun x H1 => (∃ a, x = .ref a ∧ (∃ xs, SqL X.K H1 a xs) ∧ R (Itl X.K a) H1) ∨ (∃ a, x = .ref a ∧ (∃ xs, SqT X.K H1 a xs) ∧ R (Itt X.K a) H1) ∨ ∃ z, x = .str z ∧ R (Its z) H1) := by
  refine ⟨fun pins s σ H R I h => ?_⟩
  refine thn (hl.run pins s σ H _ I h) fun v s1 ⟨x, H1, I1, r1, q1⟩ => ?_
  rcases q1 with ⟨a, e, ⟨xs, hq⟩, q⟩ | ⟨a, e, ⟨xs, hq⟩, q⟩ | ⟨z, e, q⟩
  · subst e
    cases r1
    obtain ⟨its, rv, p, hz⟩ := I1.list hq
    refine wpAny_pyIter_list p.isList ?_
    refine ⟨s1.heap.objs.size, [s1.heap.objs.size], _, _, H1, rfl, I1.kept (t' := s1.toks) fun b o e => Heap.get?_push_of_some _ e, turn_list a _, ⟨_, Heap.get?_push_size _ rfl, rfl, rfl⟩, fun b hb => ?_, q⟩
    have eb : b = s1.heap.objs.size := by simpa using hb
    subst eb
    exact I1.fpOk (Nat.le_refl _) (I1.hok.fresh (Nat.le_refl _))
  · subst e
    cases r1
    obtain ⟨its, rv, p, hz⟩ := I1.tuple hq
    refine wpAny_pyIter_tuple (show s1.heap.IsTuple a its.toArray from p) ?_
    refine ⟨s1.heap.objs.size, [s1.heap.objs.size], _, _, H1, rfl, I1.kept (t' := s1.toks) fun b o e => Heap.get?_push_of_some _ e, turn_tuple a _, ⟨_, Heap.get?_push_size _ rfl, rfl, rfl⟩, fun b hb => ?_, q⟩
    have eb : b = s1.heap.objs.size := by simpa using hb
    subst eb
    exact I1.fpOk (Nat.le_refl _) (I1.hok.fresh (Nat.le_refl _))
  · subst e
    obtain ⟨t, rfl⟩ := r1
    cases ha : z.cps.all (· < 128)
    · exact wpAny_pyIter_wide ha (pi_one (tk := s1.toks) I1 _ (turn_str _ z t "str_iterator" (.inr rfl)) ⟨_, Heap.get?_push_size _ rfl, rfl, rfl⟩ q)
    · exact wpAny_pyIter_ascii ha (pi_one (tk := s1.toks) I1 _ (turn_str _ z t "str_ascii_iterator" (.inl rfl)) ⟨_, Heap.get?_push_size _ rfl, rfl, rfl⟩ q)
theorem ri_any {l : Expr} (hl : PE X l (tE X.K m)) : PI X tg l (tIt X.K (iAny m)) := by
  refine pi_imp (pi_three hl) fun σ H R ⟨F, env, A, env', ds, em, k⟩ => ?_
  obtain ⟨⟨env1, r⟩, e1, em⟩ := bind_some em
  obtain ⟨⟨env2, d⟩, e2, em⟩ := bind_some em
  refine ⟨F, env, A, env1, r, e1, fun v F1 H1 A1 f1 o1 n1 => ?_⟩
  obtain ⟨F2, A2, f2, r2, s2⟩ := fix_one A1 f1 o1 n1 e2
  split at em
  · rename_i ds' e3
    cases em
    have e3' : d = .list ds := e3
    subst e3'
    cases r2 with
    | lst q r => exact .inl ⟨_, rfl, ⟨_, sql_mono A2.same q⟩, k _ F2 H1 A2 f2 (it_list q r)⟩
  · rename_i ds' e3
    cases em
    have e3' : d = .tuple ds := e3
    subst e3'
    cases r2 with
    | tup q r => exact .inr (.inl ⟨_, rfl, ⟨_, SqT.of (A2.same _ _ q)⟩, k _ F2 H1 A2 f2 (it_tup (SqT.of q) r)⟩)
  · rename_i x e3
    cases em
    have e3' : d = .str x := e3
    subst e3'
    cases r2
    exact .inr (.inr ⟨x, rfl, k _ F2 H1 A2 f2 (it_text x)⟩)
  · cases em
end

/-! ### displays of dicts: keys are numbers and texts, no two alike -/
def aPairs : List (ME × ME) → MA
  | [] => aNil
  | (a, b) :: ps => aCons a (aCons b (aPairs ps))
/-- keys and values apart -/
def splitKV : List PyData → Option (List Key × List PyData)
  | [] => some ([], [])
  | [_] => none
  | a :: b :: r => (keyOf a).bind fun k => (splitKV r).bind fun q => some (k :: q.1, b :: q.2)
def eDict (ps : List (ME × ME)) : ME := fun env => (aPairs ps env).bind fun p => (fixAll p.1 p.2).bind fun q => (splitKV q.2).bind fun kv => if kv.1.Nodup ∧ kv.1.length ≤ 15 then some (q.1, .own (.dict ((kv.1.map keyD).zip kv.2))) else none
/-- values off the values of some pairs -/
def flatP : List (V × V) → List V
  | [] => []
  | (a, b) :: r => a :: b :: flatP r
theorem pairs_to {K : PySem.W.Frag} : ∀ {ps : List (ME × ME)} {σ : L2.St} {H : Hp} {Q : List (V × V) → Hp → Prop}, tAs K (aPairs ps) σ H (fun vs H1 => ∀ pv, flatP pv = vs → Q pv H1) → tPairs (ps.map fun p => (tE K p.1, tE K p.2)) σ H Q
  | [], σ, H, Q, ⟨F, env, A, env', rs, em, k⟩ => by
    cases em
    exact k [] F H A (Frm.refl _ _ _ _) trivial (fun v hv => by cases hv) [] rfl
  | (a, b) :: ps, σ, H, Q, ⟨F, env, A, env', rs, em, k⟩ => by
    obtain ⟨⟨env1, r1⟩, e1, em⟩ := bind_some em
    obtain ⟨⟨env3, rs3⟩, e2, em⟩ := bind_some em
    cases em
    obtain ⟨⟨env2, r2⟩, e3, em⟩ := bind_some e2
    obtain ⟨⟨env4, rs4⟩, e4, em⟩ := bind_some em
    cases em
    refine ⟨F, env, A, env1, r1, e1, fun v F1 H1 A1 f1 o1 n1 => ⟨F1, env1, A1, env2, r2, e3, fun u F2 H2 A2 f2 o2 n2 => pairs_to ⟨F2, env2, A2, env4, rs4, e4, fun vs F3 H3 A3 f3 o3 n3 pv epv => ?_⟩⟩⟩
    have sep : ∀ {x : V} {r : RV} {Fx Hx Fy Hy : Hp} {ex ey : MEnv} {ys : List V} {rs : List RV}, r.ok K Fx Hx σ ex x → rvsNew Hx ys rs → (∃ d, r = .own d) → x ∉ ownVs ys rs := fun {x r Fx Hx Fy Hy ex ey ys rs} ok nw ⟨d, ed⟩ hm => by
      subst ed
      obtain ⟨c, ec, hn⟩ := nw x hm
      obtain ⟨c', ec', _, oc, _⟩ := ok
      rw [ec] at ec'
      cases ec'
      obtain ⟨o, ho⟩ := oc.there
      rw [hn] at ho; cases ho
    have addNew : ∀ {x : V} {r : RV} {Hx : Hp} {ys : List V} {rs : List RV}, r.isNew Hx x → rvsNew Hx ys rs → rvsNew Hx (x :: ys) (r :: rs) := fun {x r Hx ys rs} h1 h2 w hw => by
      cases r with
      | own d =>
        rcases List.mem_cons.mp hw with rfl | hw
        · exact h1
        · exact h2 w hw
      | fz d => exact h2 w hw
      | plc i => exact h2 w hw
    have n3' := n3.back f2
    have n23 : rvsNew H1 (u :: vs) (r2 :: rs4) := addNew n2 n3'
    refine k (v :: u :: vs) F3 H3 A3 ((f1.trans f2).trans f3) ⟨RV.ok.keep (RV.ok.keep o1 f2) f3, ⟨RV.ok.keep o2 f3, o3, fun h => sep (Fy := F3) (Hy := H3) (ey := env4) o2 n3 h⟩, fun h => sep (Fy := F3) (Hy := H3) (ey := env4) o1 n23 h⟩ (addNew n1 (n23.back f1)) ((v, u) :: pv) (by rw [← epv]; rfl)
theorem split_pairs {K : PySem.W.Frag} {F : Hp} : ∀ {pv : List (V × V)} {ds : List PyData} {ks : List Key} {vs : List PyData}, RpAll K F (flatP pv) ds → splitKV ds = some (ks, vs) → ∃ kvs : List (Key × V), pv = kvs.map (fun kv => (kV kv.1, kv.2)) ∧ kvs.map (·.1) = ks ∧ RpAll K F (kvs.map (·.2)) vs
  | [], _, _, _, h, e => by
    cases h
    cases e
    exact ⟨[], rfl, rfl, .nil⟩
  | (a, b) :: pv, _, _, _, h, e => by
    cases h with
    | cons ha h =>
      cases h with
      | cons hb h =>
        obtain ⟨k, e1, e⟩ := bind_some e
        obtain ⟨⟨ks', vs'⟩, e2, e⟩ := bind_some e
        cases e
        obtain ⟨kvs, q1, q2, q3⟩ := split_pairs h e2
        have ea : a = kV k := by
          have := keyOf_some e1
          subst this
          cases k <;> (cases ha; rfl)
        exact ⟨(k, b) :: kvs, by rw [List.map_cons, ← q1, ea], by rw [List.map_cons, q2], .cons hb q3⟩
theorem merge_fresh : ∀ (more acc : List (Key × V)), ((acc ++ more).map (·.1)).Nodup → mergeK acc more = acc ++ more
  | [], acc, _ => by simp [mergeK]
  | p :: more, acc, h => by
    have hn : p.1 ∉ acc.map (·.1) := fun hm => by
      rw [List.map_append, List.nodup_append] at h
      exact h.2.2 _ hm p.1 (by simp) rfl
    have ep : putK acc p.1 p.2 = acc ++ [p] := by
      unfold putK
      refine if_neg fun z => hn ?_
      rw [List.any_eq_true] at z
      obtain ⟨q, h1, h2⟩ := z
      rw [← of_decide_eq_true h2]
      exact List.mem_map_of_mem h1
    show mergeK (putK acc p.1 p.2) more = _
    rw [ep, merge_fresh more (acc ++ [p]) (by simpa using h)]
    simp
section
variable {X : Cx} {pos : Pos} {keys : List (Option Expr)} {values : List Expr} {ps : List (ME × ME)}
theorem re_dict0 : PE X (.Dict [] [] pos) (tE X.K (eDict [])) := by
  refine pe_imp pe_dnewK fun σ H Q ⟨F, env, A, env', r, em, k⟩ => ?_
  cases em
  intro p hp
  have sH : Same H (upd H p (.dK [])) := fun b o q => by rw [upd_ne (ne_of_none q hp)]; exact q
  obtain ⟨A2, f2⟩ := grow A (Same.refl F) sH (A.same.trans sH) fun _ _ h => .inl h
  refine k (.ref p) F _ A2 f2 ⟨p, rfl, A.same.free hp, .inl ⟨[], [], upd_same, .nil, rfl⟩, fun z => ?_⟩ ⟨p, rfl, hp⟩
  obtain ⟨_, o, ho⟩ := A.ownsF z
  rw [hp] at ho; cases ho
theorem disp_to {K : PySem.W.Frag} {σ : L2.St} {H : Hp} {Q : VK} (h : tE K (eDict ps) σ H Q) : tDisp (ps.map fun p => (tE K p.1, tE K p.2)) σ H Q := by
  obtain ⟨F, env, A, env', r, em, k⟩ := h
  obtain ⟨⟨env1, rs⟩, e1, em⟩ := bind_some em
  obtain ⟨⟨env2, ds⟩, e2, em⟩ := bind_some em
  obtain ⟨⟨ks, vs⟩, e3, em⟩ := bind_some em
  split at em
  case isFalse => cases em
  rename_i hc
  cases em
  intro p hp
  have sH : Same H (upd H p (.dK [])) := fun b o q => by rw [upd_ne (ne_of_none q hp)]; exact q
  obtain ⟨A0, f0⟩ := grow A (Same.refl F) sH (A.same.trans sH) fun _ _ h => .inl h
  have np : ¬ Owns σ env p := fun z => by
    obtain ⟨_, o, ho⟩ := A.ownsF z
    rw [hp] at ho; cases ho
  refine pairs_to ⟨F, env, A0, env1, rs, e1, fun us F1 H1 A1 f1 o1 n1 pv epv => ?_⟩
  subst epv
  obtain ⟨F2, A2, f2, r2, s2⟩ := fix_all A1 f1 o1 n1 e2
  obtain ⟨kvs, q1, q2, q3⟩ := split_pairs r2 e3
  have h1p : H1 p = some (.dK []) := f1.keep p _ upd_same np
  have f2p : F2 p = none := by
    cases q : F2 p with
    | none => rfl
    | some u =>
      rcases f2.new p u q with z | z | z
      · rw [A.same.free hp] at z; cases z
      · obtain ⟨_, e⟩ := z _ upd_same; cases e
      · exact (np z).elim
  have n2 : ¬ Owns σ env2 p := fun z => by
    rcases f2.own p z with z | z
    · exact np z
    · rw [upd_same] at z; cases z
  have q2' : kvs.map (·.1) = ks := q2
  have hl : kvs.length ≤ 15 := by
    have := hc.2
    rw [← q2', List.length_map] at this
    exact this
  have em2 : mergeK [] kvs = kvs := by
    have := merge_fresh kvs [] (by rw [List.nil_append, q2']; exact hc.1)
    rw [List.nil_append] at this
    exact this
  refine ⟨h1p, kvs, q1, hl, ?_⟩
  rw [em2]
  refine k (.ref p) F2 _ (abs_other A2 f2p n2) (frm_other (f0.trans f2) hp) ⟨p, rfl, f2p, .inl ⟨kvs, vs, upd_same, q3, ?_⟩, n2⟩ ⟨p, rfl, hp⟩
  show (ks.map keyD).zip vs = _
  rw [← q2', List.map_map]
  rfl
theorem re_dict (h : PPs X pos keys values (ps.map fun p => (tE X.K p.1, tE X.K p.2))) (hall : keys.all (·.isSome) = true := by rfl) (hl : keys.length = values.length := by rfl) (h0 : keys ≠ [] := by intro z; cases z) (h15 : keys.length ≤ 15 := by decide) :
    PE X (.Dict keys values pos) (tE X.K (eDict ps)) := pe_imp (pe_disp h hall hl h0 h15) fun _ _ _ => disp_to
end

/-! ### stores into what is owned -/
section
variable {K : PySem.W.Frag} {F H : Hp} {σ : L2.St} {env : MEnv}
theorem SV.put_own {x : SV} {d d' : PyData} (h : x.isOwn = some d) : (x.put d').isOwn = some d' ∧ (x.put d').lock = x.lock := by
  cases x with
  | own _ => exact ⟨rfl, rfl⟩
  | ref _ => exact ⟨rfl, rfl⟩
  | unb => cases h
  | fz _ => cases h
  | rfz _ => cases h
theorem put_own (A : Abs K F H σ env) {i : Nat} {x : SV} {d d' : PyData} {a : Addr} {o : HO} (e : env[i]? = some x) (ho : x.isOwn = some d) (ha : σ[i]? = some (some (.ref a))) (c : OwnC K F (upd H a o) a d') :
    Abs K F (upd H a o) σ (env.set i (x.put d')) ∧ Frm F H σ env F (upd H a o) σ (env.set i (x.put d')) := by
  have oa : OwnsAt σ env i a := ⟨x, d, e, ho, ha⟩
  obtain ⟨fa, u, hu⟩ := A.ownsF ⟨i, oa⟩
  obtain ⟨po, pl⟩ := SV.put_own (d' := d') ho
  have hl : i < env.length := (List.getElem?_eq_some_iff.mp e).1
  have own1 : ∀ j b, OwnsAt σ (env.set i (x.put d')) j b → OwnsAt σ env j b := fun j b ⟨y, dy, h1, h2, h3⟩ => by
    rcases getSet h1 with ⟨rfl, rfl, _⟩ | ⟨hj, h1⟩
    · exact ⟨x, d, e, ho, h3⟩
    · exact ⟨y, dy, h1, h2, h3⟩
  refine ⟨⟨fun b w q => by rw [upd_ne (ne_of_none q fa)]; exact A.same b w q, by rw [List.length_set]; exact A.len, fun j y ey => ?_, fun j l b h1 h2 => A.inj j l b (own1 j b h1) (own1 l b h2)⟩,
    ⟨Same.refl _, fun b w h n => by rw [upd_ne (fun z => n ⟨i, by rw [z]; exact oa⟩ : b ≠ a)]; exact h, fun b w h => ?_, fun b w h => .inl h, fun b ⟨j, h⟩ => .inl ⟨j, own1 j b h⟩, fun b ⟨j, dj, h1, h3⟩ => ?_, fun j y h1 l => ⟨rfl, ?_⟩, by rw [List.length_set]⟩⟩
  · rcases getSet ey with ⟨rfl, rfl, _⟩ | ⟨hj, ey⟩
    · cases x with
      | own _ => exact ⟨a, ha, fa, c⟩
      | ref _ => exact ⟨a, ha, fa, c⟩
      | unb => cases ho
      | fz _ => cases ho
      | rfz _ => cases ho
    · have h := A.slot j y ey
      have own : ∀ dy, y.isOwn = some dy → (∃ b, σ[j]? = some (some (.ref b)) ∧ F b = none ∧ OwnC K F H b dy) → ∃ b, σ[j]? = some (some (.ref b)) ∧ F b = none ∧ OwnC K F (upd H a o) b dy := fun dy oy ⟨b, q, fb, cb⟩ => by
        have hb : b ≠ a := fun z => by subst z; exact hj (A.inj j i b ⟨y, dy, ey, oy, q⟩ oa)
        exact ⟨b, q, fb, cb.keep (Same.refl _) fun w hw => by rw [upd_ne hb]; exact hw⟩
      cases y with
      | unb => trivial
      | fz _ => exact h
      | rfz _ => exact h
      | own dy => exact own dy rfl h
      | ref dy => exact own dy rfl h
  · by_cases hb : b = a
    · subst hb; exact ⟨o, upd_same⟩
    · exact ⟨w, by rw [upd_ne hb]; exact h⟩
  · rcases getSet h1 with ⟨rfl, q, _⟩ | ⟨hj, h1⟩
    · cases x with
      | own d0 => exact .inl ⟨j, d0, e, h3⟩
      | ref _ => cases q
      | unb => cases ho
      | fz _ => cases ho
      | rfz _ => cases ho
    · exact .inl ⟨j, dj, h1, h3⟩
  · by_cases hj : j = i
    · subst hj
      rw [e] at h1
      cases h1
      exact ⟨x.put d', List.getElem?_set_self hl, by rw [pl]; exact l⟩
    · exact ⟨y, by rw [List.getElem?_set_ne (Ne.symm hj)]; exact h1, l⟩
end
/-- an owned list in a slot -/
def ownL (env : MEnv) (i : Nat) : Option (SV × List PyData) := (env[i]?).bind fun x => match x with
  | .own (.list ds) => some (x, ds)
  | .ref (.list ds) => some (x, ds)
  | _ => none
theorem ownL_some {env : MEnv} {i : Nat} {x : SV} {ds : List PyData} (h : ownL env i = some (x, ds)) : env[i]? = some x ∧ x.isOwn = some (.list ds) := by
  obtain ⟨y, e, h⟩ := bind_some h
  split at h
  · cases h; exact ⟨e, rfl⟩
  · cases h; exact ⟨e, rfl⟩
  · cases h
/-- o[i] = e, the slot o holds an owned list -/
def sSetIx (o : Nat) (mi me : ME) : MS := fun env => (me env).bind fun p => (ownL p.1 o).bind fun _ => (mi p.1).bind fun q => (intOf q.2).bind fun i => (p.2.fix q.1).bind fun s => (ownL s.1 o).bind fun w => (ixN w.2.length i).bind fun j =>
  some (.nx (s.1.set o (w.1.put (.list (w.2.set j s.2)))))
/-- o.append(e) -/
def eApp (o : Nat) (me : ME) : ME := fun env => (ownL env o).bind fun _ => (me env).bind fun p => (p.2.fix p.1).bind fun s => (ownL s.1 o).bind fun w => if w.2.length < lineN then some (s.1.set o (w.1.put (.list (w.2 ++ [s.2]))), .fz .none) else none
section
variable {X : Cx} {oe ie e : Expr} {o : Nat} {mi me : ME} {pos spos apos cpos : Pos}
theorem setIx_to {K : PySem.W.Frag} {D : Ends} {σ : L2.St} {H : Hp} (h : tS K (sSetIx o mi me) D σ H) : tAsg (tE K me) (gSub (tVar o) (tE K mi) rSetL) D σ H := by
  obtain ⟨F, env, A, out, em, k⟩ := h
  obtain ⟨⟨env1, r1⟩, e1, em⟩ := bind_some em
  obtain ⟨⟨x0, ds0⟩, e0, em⟩ := bind_some em
  obtain ⟨⟨env2, r2⟩, e2, em⟩ := bind_some em
  obtain ⟨i, e3, em⟩ := bind_some em
  obtain ⟨⟨env3, d⟩, e4, em⟩ := bind_some em
  obtain ⟨⟨x, ds⟩, e5, em⟩ := bind_some em
  obtain ⟨j, e6, em⟩ := bind_some em
  cases em
  refine ⟨F, env, A, env1, r1, e1, fun v F1 H1 A1 f1 o1 n1 => ?_⟩
  obtain ⟨g1, g2⟩ := ownL_some e0
  obtain ⟨a, ha, _, _⟩ := A1.own (a := 0) g1 g2
  refine ⟨.ref a, ha, F1, env1, A1, env2, r2, e2, fun u F2 H2 A2 f2 o2 n2 => ?_⟩
  have e3' : r2 = .fz (.int i) := intOf_some e3
  subst e3'
  cases (show Rp K F2 u (.int i) from o2)
  obtain ⟨F3, A3, f3, rd, s3⟩ := fix_one A2 (f1.trans f2) (RV.ok.keep o1 f2) n1 e4
  obtain ⟨g3, g4⟩ := ownL_some e5
  obtain ⟨a', ha', fa', xs, hx, rx⟩ := A3.own (a := 0) g3 g4
  rw [ha] at ha'
  cases ha'
  refine ⟨a, xs, i, j, rfl, rfl, hx, by rw [rx.length]; exact e6, ?_⟩
  obtain ⟨A4, f4⟩ := put_own (d' := .list (ds.set j d)) (o := .lst (xs.set j v)) A3 g3 g4 ha ⟨_, upd_same, rx.set j rd⟩
  exact k σ F3 _ A4 (f3.trans f4)
theorem rs_setIx (ho : PE X oe (tVar o)) (hi : PE X ie (tE X.K mi)) (he : PE X e (tE X.K me)) (ha : ∀ v, assign (.Subscript oe ie spos) X.env v = (do
      let ov ← holding [v] (eval oe X.env)
      let iv ← holding [v, ov] (eval ie X.env)
      standAt spos
      holding [v, ov, iv] (setItem ov iv v)
      release [v, ov, iv] []) := by intro _; rfl) (hs : swapsWithSole [.Subscript oe ie spos] e pos.line X.env = pure false := by rfl) (hw : swappedStores [.Subscript oe ie spos] e X.env = pure none := by rfl)
    (h1 : (assignEach [.Subscript oe ie spos] X.env).map (·.2) = [assign (.Subscript oe ie spos) X.env] := by rfl) : PS X (.Assign [.Subscript oe ie spos] e pos) (tS X.K (sSetIx o mi me)) :=
  ps_imp (ps_asg he (pg_sub ho hi set_list ha) hs hw h1) fun _ _ _ => setIx_to
theorem app_to {K : PySem.W.Frag} {σ : L2.St} {H : Hp} {Q : VK} (h : tE K (eApp o me) σ H Q) : tBM K "list" rAppend (tVar o) (tCons (tE K me) tNil) σ H Q := by
  obtain ⟨F, env, A, env', r, em, k⟩ := h
  obtain ⟨⟨x0, ds0⟩, e0, em⟩ := bind_some em
  obtain ⟨⟨env1, r1⟩, e1, em⟩ := bind_some em
  obtain ⟨⟨env2, d⟩, e2, em⟩ := bind_some em
  obtain ⟨⟨x, ds⟩, e3, em⟩ := bind_some em
  split at em
  case isFalse => cases em
  rename_i hz
  cases em
  obtain ⟨g1, g2⟩ := ownL_some e0
  obtain ⟨a, ha, fa, ys, hy, ry⟩ := A.own (a := 0) g1 g2
  refine ⟨.ref a, ha, .inl ⟨rfl, ys, SqL.of hy⟩, F, env, A, env1, r1, e1, fun v F1 H1 A1 f1 o1 n1 => ?_⟩
  obtain ⟨F2, A2, f2, rd, s2⟩ := fix_one A1 f1 o1 n1 e2
  obtain ⟨g3, g4⟩ := ownL_some e3
  obtain ⟨a', ha', fa', xs, hx, rx⟩ := A2.own (a := 0) g3 g4
  rw [ha] at ha'
  cases ha'
  have hl : xs.length < sizeLine := by rw [rx.length, ← lineN_eq]; exact hz
  obtain ⟨A3, f3⟩ := put_own (d' := .list (ds ++ [d])) (o := .lst (xs ++ [v])) A2 g3 g4 ha ⟨_, upd_same, rx.append (.cons rd .nil)⟩
  exact ⟨a, xs, v, rfl, rfl, hx, hl, k .non F2 _ A3 (f2.trans f3) Rp.non trivial⟩
theorem re_app (ho : PE X oe (tVar o)) (he : PE X e (tE X.K me)) (hbase : attributeBase oe "append" X.env (eval oe X.env) = eval oe X.env := by rfl)
    (hfew : ((backTo cpos (starEach [e] X.env)).all (fun x => !x.1) && (backToKw cpos (keywordEach [] X.env)).all (fun x => x.1.isSome) && decide ([e].length + ([] : List Keyword).length + (if ([] : List Keyword).isEmpty then 0 else 1) < 30)) = true := by rfl)
    (hline : (apos.endLine == cpos.line) = true := by rfl) (hs : starEach (e :: []) X.env = (false, eval e X.env) :: starEach [] X.env := by rfl) (hplain : (backTo cpos (starEach [] X.env)).any (·.1) = false := by rfl) :
    PE X (.Call (.Attribute oe "append" apos) [e] [] cpos) (tE X.K (eApp o me)) :=
  pe_imp (pe_bm PySem.F.plainAttrs_list PySem.F.slot_list_append PySem.F.type_list_append mt_append ho (pa_cons he pa_nil hs) hbase hfew hline hs hplain) fun _ _ _ => app_to
end
end L3

/-! L3K: module constants, not in a text. -/
namespace L3
open PySem PySem.Spec PyProof.Rows L2
section
variable {X : Cx}
/-- the bound of a while loop -/
def wN : Nat := 1000000
theorem re_gI {x : Str} {i : Int} {pos : Pos} (hg : Gl X x) (h : ∃ t, X.mg x = some (.int i t)) (hd : (x == ("__debug__" : Str)) = false := by decide) : PE X (.Name x pos) (tE X.K (eLit (.int i))) := by
  obtain ⟨t, e⟩ := h
  exact re_lit (pe_glob (v := .int i) hg e ⟨t, rfl⟩ hd) fun _ => .int i
theorem re_gS {x : Str} {z : Str} {pos : Pos} (hg : Gl X x) (h : ∃ t, X.mg x = some (.str z t)) (hd : (x == ("__debug__" : Str)) = false := by decide) : PE X (.Name x pos) (tE X.K (eLit (.str z))) := by
  obtain ⟨t, e⟩ := h
  exact re_lit (pe_glob (v := .str z) hg e ⟨t, rfl⟩ hd) fun _ => .str z
def notInD : PyData → PyData → Option RV
  | .str x, .str z => match x.cps.toList with
    | [c] => some (.fz (.bool (!decide (c ∈ z.cps.toList))))
    | _ => none
  | d, .list ds => if SeqAt.shaped d = true ∧ SeqAt.shaped (.list ds) = true then some (.fz (.bool (!ds.any fun z => PyData.eqv z d))) else none
  | d, .tuple ds => if SeqAt.shaped d = true ∧ SeqAt.shaped (.tuple ds) = true then some (.fz (.bool (!ds.any fun z => PyData.eqv z d))) else none
  | .tuple ts, .dict kvs => (keysOf ts).bind fun k => if tupKs kvs = true then some (.fz (.bool (!(findT k kvs).isSome))) else none
  | d, .dict kvs => (keyOf d).bind fun k => if flatKs kvs = true then some (.fz (.bool (!(findK k kvs).isSome))) else none
  | _, _ => none
theorem o_notIn (hu : X.A.units + 65 < cLine) : OpR X (compareOp .NotIn) (rOp2 X.K notInD) := by
  intro pins s σ H x y v u Q I rx ry ⟨F, d, e, r, sm, kx, ky, hf, g⟩
  unfold notInD at hf
  split at hf
  · rename_i sx sy
    split at hf
    · rename_i c hc
      have ex : sx = ⟨#[c]⟩ := by
        have h0 : sx.cps = #[c] := by rw [← Array.toArray_toList (xs := sx.cps), hc]
        cases sx
        exact congrArg _ h0
      rw [kx.str, ex] at rx; rw [ky.str] at ry
      cases hf
      exact op_notIn_sign pins s σ H _ _ v u Q I rx ry ⟨c, sy, rfl, rfl, g.flat sm (.bl _)⟩
    · cases hf
  · rename_i ds
    split at hf
    case isFalse => cases hf
    rename_i hz
    cases hf
    exact op_notInD hu pins s σ H x y v u Q I rx ry ⟨d, ds, dp_of d x (kx.rp sm) (SeqAt.canLay_of_shaped hz.1), dp_of _ y (ky.rp sm) (SeqAt.canLay_of_shaped hz.2), hz.1, hz.2, g.flat sm (.bl _)⟩
  · rename_i ds
    split at hf
    case isFalse => cases hf
    rename_i hz
    cases hf
    obtain ⟨as, r1⟩ := Dp.reads I d x v (dp_of d x (kx.rp sm) (SeqAt.canLay_of_shaped hz.1)) rx
    obtain ⟨bs, r2⟩ := Dp.reads I (.tuple ds) y u (dp_of _ y (ky.rp sm) (SeqAt.canLay_of_shaped hz.2)) ry
    exact SeqAt.notIn_tuple_reads r2 r1 (SeqAt.canLay_of_shaped hz.2) (SeqAt.canLay_of_shaped hz.1) (room_in_shaped hz.1 hu) ⟨.bl _, H, I, rfl, g.flat sm (.bl _)⟩
  · rename_i ts kvs
    obtain ⟨k, e1, hf⟩ := bind_some hf
    split at hf
    case isFalse => cases hf
    rename_i hz
    cases hf
    obtain ⟨b, rfl, hb⟩ := keyT_rel kx sm e1
    rcases dictT_at ky sm hz with ⟨a, rfl, h1, rfl⟩ | ⟨a, ks, ds, rfl, h1, h2, rfl⟩
    · cases ry
      have hab : b ≠ a := fun z => by subst z; rw [h1] at hb; cases hb
      refine d_notIn (by omega) (tagT I h1) (.t upd_same (by rw [upd_ne hab]; exact hb)) rx fun s' I' => ⟨.bl _, H, tagK I' h1, rfl, ?_⟩
      exact g.flat sm (.bl _)
    · cases ry
      have e3 : (valV ks k).isSome = (findT k ((ks.map fun p => PyData.tuple (p.1.map keyD)).zip ds)).isSome := by
        rcases find_valT k h2 with ⟨q1, q2⟩ | ⟨v', d', q1, q2, _⟩
        · rw [q1, q2]
          rfl
        · rw [q1, q2]
          rfl
      refine d_notIn (by omega) I (.inr ⟨ks, k, b, h1, rfl, hb, rfl⟩) rx fun s' I' => ⟨.bl _, H, I', rfl, ?_⟩
      rw [e3]
      exact g.flat sm (.bl _)
  · rename_i kvs
    obtain ⟨k, e1, hf⟩ := bind_some hf
    split at hf
    case isFalse => cases hf
    rename_i hz
    cases hf
    obtain ⟨a, ks, ds, rfl, h1, h2, rfl⟩ := dict_at ky sm hz
    cases ry
    have ex := key_rel kx e1
    subst ex
    have e3 : (valV ks k).isSome = (findK k ((ks.map fun p => keyD p.1).zip ds)).isSome := by
      rcases find_val k h2 with ⟨q1, q2⟩ | ⟨v', d', q1, q2, _⟩
      · rw [q1, q2]
        rfl
      · rw [q1, q2]
        rfl
    refine d_notIn (by omega) I (.inl ⟨ks, k, h1, rfl, rfl⟩) rx fun s' I' => ⟨.bl _, H, I', rfl, ?_⟩
    rw [e3]
    exact g.flat sm (.bl _)
  · cases hf
end
end L3

/-! L3P: what stands behind a run, step by step; continuations as closures. -/
namespace L3
open PySem PySem.Spec PyProof.Rows L2

def Wp {α : Type} (o : Option α) (P : α → Prop) : Prop := ∃ x, o = some x ∧ P x
section
variable {α β : Type} {o : Option α} {x : α} {P Q : α → Prop} {R : β → Prop} {f : α → Option β}
theorem wp_some : Wp (some x) P ↔ P x := ⟨fun ⟨_, e, h⟩ => by cases e; exact h, fun h => ⟨x, rfl, h⟩⟩
theorem wp_none : Wp (none : Option α) P ↔ False := ⟨fun ⟨_, e, _⟩ => (nomatch e), False.elim⟩
theorem wp_bind : Wp (o.bind f) R ↔ Wp o fun x => Wp (f x) R := by
  cases o with
  | none => exact wp_none.trans wp_none.symm
  | some x => exact ⟨fun h => ⟨x, rfl, h⟩, fun ⟨_, e, h⟩ => by cases e; exact h⟩
theorem Wp.imp (h : Wp o P) (i : ∀ x, P x → Q x) : Wp o Q := by
  obtain ⟨x, e, p⟩ := h
  exact ⟨x, e, i x p⟩
theorem wp_ite {c : Prop} [Decidable c] {a b : Option α} : Wp (if c then a else b) P ↔ (c → Wp a P) ∧ (¬ c → Wp b P) := by
  by_cases h : c
  · rw [if_pos h]; exact ⟨fun q => ⟨fun _ => q, fun n => (n h).elim⟩, fun q => q.1 h⟩
  · rw [if_neg h]; exact ⟨fun q => ⟨fun n => (h n).elim, fun _ => q⟩, fun q => q.2 h⟩
theorem wp_guard {c : Prop} [Decidable c] {a : Option α} : Wp (if c then a else none) P ↔ c ∧ Wp a P := by
  by_cases h : c
  · rw [if_pos h]; exact ⟨fun q => ⟨h, q⟩, fun q => q.2⟩
  · rw [if_neg h]; exact ⟨fun q => (wp_none.mp q).elim, fun q => (h q.1).elim⟩
end

def WE (m : ME) (e : MEnv) (P : MEnv → RV → Prop) : Prop := Wp (m e) fun p => P p.1 p.2
def WA (m : MA) (e : MEnv) (P : MEnv → List RV → Prop) : Prop := Wp (m e) fun p => P p.1 p.2
def WT (m : MT) (e : MEnv) (P : MEnv → Bool → Prop) : Prop := Wp (m e) fun p => P p.1 p.2
def WI (m : MI) (e : MEnv) (P : MEnv → List PyData → Prop) : Prop := Wp (m e) fun p => P p.1 p.2
def WO (m : MO) (e : MEnv) (P : MEnv → Option Int → Prop) : Prop := Wp (m e) fun p => P p.1 p.2
def WS (m : MS) (e : MEnv) (P : Out → Prop) : Prop := Wp (m e) P
def WG (g : MG) (d : PyData) (e : MEnv) (P : MEnv → Prop) : Prop := Wp (g d e) P
def WGs (g : MGs) (d : List PyData) (e : MEnv) (P : MEnv → Prop) : Prop := Wp (g d e) P
def WC (C : CF) (as : List SV) (P : List SV → RV → Prop) : Prop := Wp (C as) fun p => P p.1 p.2
def WX (e : MEnv) (i : Nat) (P : SV → Prop) : Prop := Wp (e[i]?) P
def WV (r : RV) (e : MEnv) (P : PyData → Prop) : Prop := Wp (r.view e) P
def WF (r : RV) (e : MEnv) (P : MEnv → PyData → Prop) : Prop := Wp (r.fix e) fun p => P p.1 p.2
theorem WE.imp {m : ME} {e : MEnv} {P Q : MEnv → RV → Prop} (h : WE m e P) (i : ∀ e r, P e r → Q e r) : WE m e Q := Wp.imp h fun x => i x.1 x.2
theorem WT.imp {m : MT} {e : MEnv} {P Q : MEnv → Bool → Prop} (h : WT m e P) (i : ∀ e r, P e r → Q e r) : WT m e Q := Wp.imp h fun x => i x.1 x.2
theorem WS.imp {m : MS} {e : MEnv} {P Q : Out → Prop} (h : WS m e P) (i : ∀ o, P o → Q o) : WS m e Q := Wp.imp h i
theorem WC.imp {m : CF} {e : List SV} {P Q : List SV → RV → Prop} (h : WC m e P) (i : ∀ e r, P e r → Q e r) : WC m e Q := Wp.imp h fun x => i x.1 x.2

section
variable {e : MEnv} {i n : Nat} {x : SV} {xs : List SV} {d : PyData} {P : SV → Prop} {Q : PyData → Prop} {R : MEnv → PyData → Prop}
theorem wx_0 : WX (x :: xs) 0 P ↔ P x := wp_some
theorem wx_s : WX (x :: xs) (n + 1) P ↔ WX xs n P := Iff.rfl
theorem wv_fz : WV (.fz d) e Q ↔ Q d := wp_some
theorem wv_own : WV (.own d) e Q ↔ Q d := wp_some
def kView (Q : PyData → Prop) (x : SV) : Prop := Wp x.view Q
theorem wv_plc : WV (.plc i) e Q ↔ WX e i (kView Q) := wp_bind
theorem kView_fz : kView Q (.fz d) ↔ Q d := wp_some
theorem kView_own : kView Q (.own d) ↔ Q d := wp_some
theorem kView_ref : kView Q (.ref d) ↔ Q d := wp_some
theorem kView_rfz : kView Q (.rfz d) ↔ Q d := wp_some
theorem wf_fz : WF (.fz d) e R ↔ R e d := wp_some
theorem wf_own : WF (.own d) e R ↔ R e d := wp_some
def kFix (e : MEnv) (i : Nat) (R : MEnv → PyData → Prop) (x : SV) : Prop := Wp x.view fun d => R (e.set i x.freeze) d
theorem wf_plc : WF (.plc i) e R ↔ WX e i (kFix e i R) := by
  unfold WF WX RV.fix
  rw [wp_bind]
  refine ⟨fun h => h.imp fun x h => ?_, fun h => h.imp fun x h => ?_⟩
  · rw [wp_bind] at h
    exact h.imp fun d h => (wp_some.mp h :)
  · rw [wp_bind]
    exact Wp.imp h fun d h => wp_some.mpr h
theorem kFix_fz : kFix e i R (.fz d) ↔ R (e.set i (.fz d)) d := wp_some
theorem kFix_rfz : kFix e i R (.rfz d) ↔ R (e.set i (.rfz d)) d := wp_some
theorem kFix_own : kFix e i R (.own d) ↔ R (e.set i (.fz d)) d := wp_some
theorem kFix_ref : kFix e i R (.ref d) ↔ R (e.set i (.rfz d)) d := wp_some
end

/-! ### expressions -/
section
variable {e : MEnv} {i n : Nat} {d d2 : PyData} {r r2 : RV} {rs : List RV} {P : MEnv → RV → Prop} {Pa : MEnv → List RV → Prop} {Pt : MEnv → Bool → Prop} {m ma mb mc : ME} {ms : MA} {s t : MT} {f g : PyData → PyData → Option RV} {f1 : PyData → Option RV} {fc : List PyData → Option RV} {b : Bool}
theorem we_lit : WE (eLit d) e P ↔ P e (.fz d) := wp_some
def kSlot (e : MEnv) (i : Nat) (P : MEnv → RV → Prop) : SV → Prop
  | .unb => False
  | .fz d => P e (.fz d)
  | .rfz d => P e (.fz d)
  | .own _ => P e (.plc i)
  | .ref _ => P e (.plc i)
theorem we_slot : WE (eSlot i) e P ↔ WX e i (kSlot e i P) := by
  unfold WE WX eSlot
  cases h : e[i]? with
  | none => exact wp_none.trans wp_none.symm
  | some x => cases x <;> first | exact ⟨fun h => (wp_none.mp h).elim, fun ⟨_, e, h⟩ => by cases e; exact h.elim⟩ | exact ⟨fun ⟨_, e, h⟩ => by cases e; exact ⟨_, rfl, h⟩, fun ⟨_, e, h⟩ => by cases e; exact ⟨_, rfl, h⟩⟩
theorem kSlot_fz : kSlot e i P (.fz d) ↔ P e (.fz d) := Iff.rfl
theorem kSlot_rfz : kSlot e i P (.rfz d) ↔ P e (.fz d) := Iff.rfl
theorem kSlot_own : kSlot e i P (.own d) ↔ P e (.plc i) := Iff.rfl
theorem kSlot_ref : kSlot e i P (.ref d) ↔ P e (.plc i) := Iff.rfl
theorem wa_nil : WA aNil e Pa ↔ Pa e [] := wp_some
def kCons1 (ms : MA) (Pa : MEnv → List RV → Prop) (e : MEnv) (r : RV) : Prop := WA ms e fun e rs => Pa e (r :: rs)
def kCons2 (r : RV) (Pa : MEnv → List RV → Prop) (e : MEnv) (rs : List RV) : Prop := Pa e (r :: rs)
theorem wa_cons : WA (aCons m ms) e Pa ↔ WE m e (kCons1 ms Pa) := by
  unfold WA WE aCons kCons1 WA
  rw [wp_bind]
  refine ⟨fun h => h.imp fun x h => ?_, fun h => h.imp fun x h => ?_⟩
  · rw [wp_bind] at h
    exact h.imp fun d h => (wp_some.mp h :)
  · rw [wp_bind]
    exact Wp.imp h fun d h => wp_some.mpr h
theorem kCons1_eq : kCons1 ms Pa e r ↔ WA ms e (kCons2 r Pa) := Iff.rfl
theorem kCons2_eq : kCons2 r Pa e rs ↔ Pa e (r :: rs) := Iff.rfl
/-- all views -/
def WVs (rs : List RV) (e : MEnv) (P : List PyData → Prop) : Prop := Wp (viewAll e rs) P
def kVs1 (rs : List RV) (e : MEnv) (Q : List PyData → Prop) (d : PyData) : Prop := WVs rs e fun ds => Q (d :: ds)
def kVs2 (d : PyData) (Q : List PyData → Prop) (ds : List PyData) : Prop := Q (d :: ds)
theorem wvs_nil {Q : List PyData → Prop} : WVs [] e Q ↔ Q [] := wp_some
theorem wvs_cons {Q : List PyData → Prop} : WVs (r :: rs) e Q ↔ WV r e (kVs1 rs e Q) := by
  unfold WVs WV viewAll kVs1 WVs
  rw [wp_bind]
  refine ⟨fun h => h.imp fun x h => ?_, fun h => h.imp fun x h => ?_⟩
  · rw [wp_bind] at h
    exact h.imp fun d h => (wp_some.mp h :)
  · rw [wp_bind]
    exact Wp.imp h fun d h => wp_some.mpr h
theorem kVs1_eq {Q : List PyData → Prop} : kVs1 rs e Q d ↔ WVs rs e (kVs2 d Q) := Iff.rfl
theorem kVs2_eq {Q : List PyData → Prop} {ds : List PyData} : kVs2 d Q ds ↔ Q (d :: ds) := Iff.rfl
/-- operators -/
def kOp2d (f : PyData → PyData → Option RV) (d : PyData) (P : MEnv → RV → Prop) (e : MEnv) (d2 : PyData) : Prop := Wp (f d d2) (P e)
def kOp2c (f : PyData → PyData → Option RV) (r2 : RV) (P : MEnv → RV → Prop) (e : MEnv) (d : PyData) : Prop := WV r2 e (kOp2d f d P e)
def kOp2b (f : PyData → PyData → Option RV) (r : RV) (P : MEnv → RV → Prop) (e : MEnv) (r2 : RV) : Prop := WV r e (kOp2c f r2 P e)
def kOp2a (f : PyData → PyData → Option RV) (mb : ME) (P : MEnv → RV → Prop) (e : MEnv) (r : RV) : Prop := WE mb e (kOp2b f r P)
theorem we_op2 : WE (eOp2 f ma mb) e P ↔ WE ma e (kOp2a f mb P) := by
  simp only [WE, WV, eOp2, wp_bind, wp_some]
  try exact Iff.rfl
theorem kOp2a_eq : kOp2a f mb P e r ↔ WE mb e (kOp2b f r P) := Iff.rfl
theorem kOp2b_eq : kOp2b f r P e r2 ↔ WV r e (kOp2c f r2 P e) := Iff.rfl
theorem kOp2c_eq : kOp2c f r2 P e d ↔ WV r2 e (kOp2d f d P e) := Iff.rfl
theorem kOp2d_eq : kOp2d f d P e d2 ↔ Wp (f d d2) (P e) := Iff.rfl
def kOp1b (f : PyData → Option RV) (P : MEnv → RV → Prop) (e : MEnv) (d : PyData) : Prop := Wp (f d) (P e)
def kOp1a (f : PyData → Option RV) (P : MEnv → RV → Prop) (e : MEnv) (r : RV) : Prop := WV r e (kOp1b f P e)
theorem we_op1 : WE (eOp1 f1 m) e P ↔ WE m e (kOp1a f1 P) := by
  simp only [WE, WV, eOp1, wp_bind, wp_some]
  try exact Iff.rfl
theorem kOp1a_eq : kOp1a f1 P e r ↔ WV r e (kOp1b f1 P e) := Iff.rfl
theorem kOp1b_eq : kOp1b f1 P e d ↔ Wp (f1 d) (P e) := Iff.rfl
def kCallb (f : List PyData → Option RV) (P : MEnv → RV → Prop) (e : MEnv) (ds : List PyData) : Prop := Wp (f ds) (P e)
def kCalla (f : List PyData → Option RV) (P : MEnv → RV → Prop) (e : MEnv) (rs : List RV) : Prop := WVs rs e (kCallb f P e)
theorem we_call : WE (eCall fc ms) e P ↔ WA ms e (kCalla fc P) := by
  simp only [WE, WA, WVs, eCall, wp_bind, wp_some]
  try exact Iff.rfl
theorem kCalla_eq : kCalla fc P e rs ↔ WVs rs e (kCallb fc P e) := Iff.rfl
theorem kCallb_eq {ds : List PyData} : kCallb fc P e ds ↔ Wp (fc ds) (P e) := Iff.rfl
/-- tests -/
def kAsT (Pt : MEnv → Bool → Prop) (e : MEnv) : RV → Prop
  | .fz (.bool b) => Pt e b
  | _ => False
theorem wt_asT : WT (asT m) e Pt ↔ WE m e (kAsT Pt) := by
  unfold WT WE asT
  rw [wp_bind]
  refine ⟨fun h => h.imp fun x h => ?_, fun h => h.imp fun x h => ?_⟩
  · split at h
    · rename_i hx
      rw [hx]
      exact (wp_some.mp h :)
    · exact (wp_none.mp h).elim
  · unfold kAsT at h
    split at h
    · rename_i hx
      first
        | exact wp_some.mpr h
        | (rw [hx]
           exact wp_some.mpr h)
    · exact h.elim
theorem kAsT_eq : kAsT Pt e (.fz (.bool b)) ↔ Pt e b := Iff.rfl
def kAnd (t : MT) (Pt : MEnv → Bool → Prop) (e : MEnv) (b : Bool) : Prop := if b = true then WT t e Pt else Pt e false
def kOr (t : MT) (Pt : MEnv → Bool → Prop) (e : MEnv) (b : Bool) : Prop := if b = true then Pt e true else WT t e Pt
def kNot (Pt : MEnv → Bool → Prop) (e : MEnv) (b : Bool) : Prop := Pt e (!b)
theorem wp_ite' {α : Type} {P : α → Prop} {c : Prop} [Decidable c] {x y : Option α} : Wp (if c then x else y) P ↔ if c then Wp x P else Wp y P := by
  by_cases h : c
  · rw [if_pos h, if_pos h]
  · rw [if_neg h, if_neg h]
theorem wt_and : WT (mAnd s t) e Pt ↔ WT s e (kAnd t Pt) := by
  simp only [WT, mAnd, wp_bind, wp_some, wp_ite']
  try exact Iff.rfl
theorem wt_or : WT (mOr s t) e Pt ↔ WT s e (kOr t Pt) := by
  simp only [WT, mOr, wp_bind, wp_some, wp_ite']
  try exact Iff.rfl
theorem wt_not : WT (mNot s) e Pt ↔ WT s e (kNot Pt) := by
  simp only [WT, mNot, wp_bind, wp_some]
  try exact Iff.rfl
theorem kAnd_t : kAnd t Pt e true ↔ WT t e Pt := by simp [kAnd]
theorem kAnd_f : kAnd t Pt e false ↔ Pt e false := by simp [kAnd]
theorem kOr_t : kOr t Pt e true ↔ Pt e true := by simp [kOr]
theorem kOr_f : kOr t Pt e false ↔ WT t e Pt := by simp [kOr]
theorem kNot_eq : kNot Pt e b ↔ Pt e (!b) := Iff.rfl
theorem kAnd_i (h : b = true → WT t e Pt) (h' : b = false → Pt e false) : kAnd t Pt e b := by
  cases b with
  | true => exact kAnd_t.mpr (h rfl)
  | false => exact kAnd_f.mpr (h' rfl)
theorem kOr_i (h : b = true → Pt e true) (h' : b = false → WT t e Pt) : kOr t Pt e b := by
  cases b with
  | true => exact kOr_t.mpr (h rfl)
  | false => exact kOr_f.mpr (h' rfl)
def kET (P : MEnv → RV → Prop) (e : MEnv) (b : Bool) : Prop := P e (.fz (.bool b))
theorem we_eT : WE (eT t) e P ↔ WT t e (kET P) := by
  simp only [WE, WT, eT, wp_bind, wp_some]
  try exact Iff.rfl
theorem kET_eq : kET P e b ↔ P e (.fz (.bool b)) := Iff.rfl
def kIfE (m n : ME) (P : MEnv → RV → Prop) (e : MEnv) (b : Bool) : Prop := if b = true then WE m e P else WE n e P
theorem we_if : WE (eIf t ma mb) e P ↔ WT t e (kIfE ma mb P) := by
  simp only [WE, WT, eIf, wp_bind, wp_some, wp_ite']
  try exact Iff.rfl
theorem kIfE_t : kIfE ma mb P e true ↔ WE ma e P := by simp [kIfE]
theorem kIfE_f : kIfE ma mb P e false ↔ WE mb e P := by simp [kIfE]
theorem kIfE_i (h : b = true → WE ma e P) (h' : b = false → WE mb e P) : kIfE ma mb P e b := by
  cases b with
  | true => exact kIfE_t.mpr (h rfl)
  | false => exact kIfE_f.mpr (h' rfl)
/-- chains -/
def kCh5 (g : PyData → PyData → Option RV) (r2 : RV) (mc : ME) (P : MEnv → RV → Prop) (e : MEnv) : RV → Prop
  | .fz (.bool true) => WE mc e (kOp2b g r2 P)
  | .fz (.bool false) => P e (.fz (.bool false))
  | _ => False
def kCh4 (f g : PyData → PyData → Option RV) (d : PyData) (r2 : RV) (mc : ME) (P : MEnv → RV → Prop) (e : MEnv) (d2 : PyData) : Prop := Wp (f d d2) (kCh5 g r2 mc P e)
def kCh3 (f g : PyData → PyData → Option RV) (r2 : RV) (mc : ME) (P : MEnv → RV → Prop) (e : MEnv) (d : PyData) : Prop := WV r2 e (kCh4 f g d r2 mc P e)
def kCh2 (f g : PyData → PyData → Option RV) (r : RV) (mc : ME) (P : MEnv → RV → Prop) (e : MEnv) (r2 : RV) : Prop := WV r e (kCh3 f g r2 mc P e)
def kCh1 (f g : PyData → PyData → Option RV) (mb mc : ME) (P : MEnv → RV → Prop) (e : MEnv) (r : RV) : Prop := WE mb e (kCh2 f g r mc P)
theorem we_chain : WE (eChain f g ma mb mc) e P ↔ WE ma e (kCh1 f g mb mc P) := by
  simp only [WE, WV, eChain, kCh1, kCh2, kCh3, kCh4, wp_bind, wp_some]
  refine ⟨fun h => h.imp fun p h => h.imp fun q h => h.imp fun d h => h.imp fun d2 h => h.imp fun r h => ?_, fun h => h.imp fun p h => h.imp fun q h => h.imp fun d h => h.imp fun d2 h => h.imp fun r h => ?_⟩
  · split at h
    · simp only [kCh5, WE, WV, kOp2b, kOp2c, kOp2d, wp_bind, wp_some] at h ⊢
      exact h
    · exact (wp_some.mp h :)
    · exact (wp_none.mp h).elim
  · unfold kCh5 at h
    split at h
    · simp only [WE, WV, kOp2b, kOp2c, kOp2d, wp_bind, wp_some] at h ⊢
      exact h
    · exact wp_some.mpr h
    · exact h.elim
theorem kCh1_eq : kCh1 f g mb mc P e r ↔ WE mb e (kCh2 f g r mc P) := Iff.rfl
theorem kCh2_eq : kCh2 f g r mc P e r2 ↔ WV r e (kCh3 f g r2 mc P e) := Iff.rfl
theorem kCh3_eq : kCh3 f g r2 mc P e d ↔ WV r2 e (kCh4 f g d r2 mc P e) := Iff.rfl
theorem kCh4_eq : kCh4 f g d r2 mc P e d2 ↔ Wp (f d d2) (kCh5 g r2 mc P e) := Iff.rfl
theorem kCh5_t : kCh5 g r2 mc P e (.fz (.bool true)) ↔ WE mc e (kOp2b g r2 P) := Iff.rfl
theorem kCh5_f : kCh5 g r2 mc P e (.fz (.bool false)) ↔ P e (.fz (.bool false)) := Iff.rfl
theorem kCh5_i (h : b = true → WE mc e (kOp2b g r2 P)) (h' : b = false → P e (.fz (.bool false))) : kCh5 g r2 mc P e (.fz (.bool b)) := by
  cases b with
  | true => exact h rfl
  | false => exact h' rfl
/-- displays -/
def WFs (rs : List RV) (e : MEnv) (P : MEnv → List PyData → Prop) : Prop := Wp (fixAll e rs) fun p => P p.1 p.2
def kFs2 (d : PyData) (Q : MEnv → List PyData → Prop) (e : MEnv) (ds : List PyData) : Prop := Q e (d :: ds)
def kFs1 (rs : List RV) (Q : MEnv → List PyData → Prop) (e : MEnv) (d : PyData) : Prop := WFs rs e (kFs2 d Q)
theorem wfs_nil {Q : MEnv → List PyData → Prop} : WFs [] e Q ↔ Q e [] := wp_some
theorem wfs_cons {Q : MEnv → List PyData → Prop} : WFs (r :: rs) e Q ↔ WF r e (kFs1 rs Q) := by
  simp only [WFs, WF, fixAll, wp_bind, wp_some]
  try exact Iff.rfl
theorem kFs1_eq {Q : MEnv → List PyData → Prop} : kFs1 rs Q e d ↔ WFs rs e (kFs2 d Q) := Iff.rfl
theorem kFs2_eq {Q : MEnv → List PyData → Prop} {ds : List PyData} : kFs2 d Q e ds ↔ Q e (d :: ds) := Iff.rfl
def kTupb (P : MEnv → RV → Prop) (e : MEnv) (ds : List PyData) : Prop := ds.length ≤ lineN ∧ P e (.fz (.tuple ds))
def kTup (P : MEnv → RV → Prop) (e : MEnv) (rs : List RV) : Prop := WFs rs e (kTupb P)
def kLstb (P : MEnv → RV → Prop) (e : MEnv) (ds : List PyData) : Prop := ds.length ≤ lineN ∧ P e (.own (.list ds))
def kLst (P : MEnv → RV → Prop) (e : MEnv) (rs : List RV) : Prop := WFs rs e (kLstb P)
theorem we_tup : WE (eTup ms) e P ↔ WA ms e (kTup P) := by
  simp only [WE, WA, WFs, eTup, wp_bind, wp_some, wp_guard]
  try exact Iff.rfl
theorem we_lst : WE (eLst ms) e P ↔ WA ms e (kLst P) := by
  simp only [WE, WA, WFs, eLst, wp_bind, wp_some, wp_guard]
  try exact Iff.rfl
theorem kTup_eq : kTup P e rs ↔ WFs rs e (kTupb P) := Iff.rfl
theorem kTupb_eq {ds : List PyData} : kTupb P e ds ↔ ds.length ≤ lineN ∧ P e (.fz (.tuple ds)) := Iff.rfl
theorem kLst_eq : kLst P e rs ↔ WFs rs e (kLstb P) := Iff.rfl
theorem kLstb_eq {ds : List PyData} : kLstb P e ds ↔ ds.length ≤ lineN ∧ P e (.own (.list ds)) := Iff.rfl
def kDictc (vs : List Key × List PyData → Prop) (q : List Key × List PyData) : Prop := vs q
def kDictb (P : MEnv → RV → Prop) (e : MEnv) (ds : List PyData) : Prop := ∃ kv, splitKV ds = some kv ∧ (kv.1.Nodup ∧ kv.1.length ≤ 15) ∧ P e (.own (.dict ((kv.1.map keyD).zip kv.2)))
def kDict (P : MEnv → RV → Prop) (e : MEnv) (rs : List RV) : Prop := WFs rs e (kDictb P)
theorem we_dict {ps : List (ME × ME)} : WE (eDict ps) e P ↔ WA (aPairs ps) e (kDict P) := by
  simp only [WE, WA, WFs, eDict, wp_bind, wp_some, wp_guard]
  try exact Iff.rfl
theorem kDict_eq : kDict P e rs ↔ WFs rs e (kDictb P) := Iff.rfl
theorem kDictb_nil : kDictb P e [] ↔ P e (.own (.dict [])) := ⟨fun ⟨kv, h, _, q⟩ => by cases h; exact q, fun q => ⟨_, rfl, ⟨List.nodup_nil, by decide⟩, q⟩⟩
theorem kDictb_1 {a b : PyData} {k : Key} (hk : keyOf a = some k) (h : P e (.own (.dict [(keyD k, b)]))) : kDictb P e [a, b] :=
  ⟨([k], [b]), by unfold splitKV; rw [hk]; rfl, ⟨by simp, by simp⟩, h⟩
theorem wa_pairs0 {Pa : MEnv → List RV → Prop} : WA (aPairs []) e Pa ↔ Pa e [] := wp_some
theorem wa_pairs {ps : List (ME × ME)} {Pa : MEnv → List RV → Prop} : WA (aPairs ((ma, mb) :: ps)) e Pa ↔ WA (aCons ma (aCons mb (aPairs ps))) e Pa := Iff.rfl
/-! slices -/
variable {Po : MEnv → Option Int → Prop} {l h : MO} {fs : PyData → Option Int → Option Int → Option RV}
def kSm (Po : MEnv → Option Int → Prop) (e : MEnv) : RV → Prop
  | .fz (.int i) => Po e (some i)
  | _ => False
theorem kInt {m : ME} {Pi : MEnv → Int → Prop} : (Wp (m e) fun p => Wp (intOf p.2) fun i => Pi p.1 i) ↔ WE m e fun e r => match r with | .fz (.int i) => Pi e i | _ => False := by
  unfold WE
  refine ⟨fun h => h.imp fun x h => ?_, fun h => h.imp fun x h => ?_⟩
  · obtain ⟨i, e1, h⟩ := h
    rw [intOf_some e1]
    exact h
  · dsimp only at h
    split at h
    · rename_i hx
      rw [hx]
      exact ⟨_, rfl, h⟩
    · exact h.elim
theorem wo_no : WO oNo e Po ↔ Po e none := wp_some
theorem wo_sm : WO (oSm m) e Po ↔ WE m e (kSm Po) := by
  have := kInt (e := e) (m := m) (Pi := fun e i => Po e (some i))
  simp only [WO, oSm, wp_bind, wp_some]
  exact this
theorem kSm_eq {i : Int} : kSm Po e (.fz (.int i)) ↔ Po e (some i) := Iff.rfl
def kSl4 (fs : PyData → Option Int → Option Int → Option RV) (o o2 : Option Int) (P : MEnv → RV → Prop) (e : MEnv) (d : PyData) : Prop := Wp (fs d o o2) (P e)
def kSl3 (fs : PyData → Option Int → Option Int → Option RV) (r : RV) (o : Option Int) (P : MEnv → RV → Prop) (e : MEnv) (o2 : Option Int) : Prop := WV r e (kSl4 fs o o2 P e)
def kSl2 (fs : PyData → Option Int → Option Int → Option RV) (r : RV) (h : MO) (P : MEnv → RV → Prop) (e : MEnv) (o : Option Int) : Prop := WO h e (kSl3 fs r o P)
def kSl1 (fs : PyData → Option Int → Option Int → Option RV) (l h : MO) (P : MEnv → RV → Prop) (e : MEnv) (r : RV) : Prop := WO l e (kSl2 fs r h P)
theorem we_sl : WE (eSl fs m l h) e P ↔ WE m e (kSl1 fs l h P) := by
  simp only [WE, WO, WV, eSl, wp_bind, wp_some]
  try exact Iff.rfl
theorem kSl1_eq : kSl1 fs l h P e r ↔ WO l e (kSl2 fs r h P) := Iff.rfl
theorem kSl2_eq {o : Option Int} : kSl2 fs r h P e o ↔ WO h e (kSl3 fs r o P) := Iff.rfl
theorem kSl3_eq {o o2 : Option Int} : kSl3 fs r o P e o2 ↔ WV r e (kSl4 fs o o2 P e) := Iff.rfl
theorem kSl4_eq {o o2 : Option Int} : kSl4 fs o o2 P e d ↔ Wp (fs d o o2) (P e) := Iff.rfl
/-! methods of texts -/
variable {fm0 : Str → Option RV} {fm1 : Str → PyData → Option RV} {z : Str}
def kM0 (f : Str → Option RV) (P : MEnv → RV → Prop) (e : MEnv) : RV → Prop
  | .fz (.str z) => Wp (f z) (P e)
  | _ => False
def kM1c (f : Str → PyData → Option RV) (z : Str) (P : MEnv → RV → Prop) (e : MEnv) (d : PyData) : Prop := Wp (f z d) (P e)
def kM1b (f : Str → PyData → Option RV) (z : Str) (P : MEnv → RV → Prop) (e : MEnv) (r : RV) : Prop := WV r e (kM1c f z P e)
def kM1 (f : Str → PyData → Option RV) (m : ME) (P : MEnv → RV → Prop) (e : MEnv) : RV → Prop
  | .fz (.str z) => WE m e (kM1b f z P)
  | _ => False
theorem kStr {m : ME} {Pi : MEnv → Str → Prop} : (Wp (m e) fun p => Wp (strOf p.2) fun i => Pi p.1 i) ↔ WE m e fun e r => match r with | .fz (.str i) => Pi e i | _ => False := by
  unfold WE
  refine ⟨fun h => h.imp fun x h => ?_, fun h => h.imp fun x h => ?_⟩
  · obtain ⟨i, e1, h⟩ := h
    rw [strOf_some e1]
    exact h
  · dsimp only at h
    split at h
    · rename_i hx
      rw [hx]
      exact ⟨_, rfl, h⟩
    · exact h.elim
theorem we_m0 : WE (eM0 fm0 m) e P ↔ WE m e (kM0 fm0 P) := by
  have := kStr (e := e) (m := m) (Pi := fun e z => Wp (fm0 z) (P e))
  simp only [WE, eM0, wp_bind, wp_some] at this ⊢
  exact this
theorem we_m1 : WE (eM1 fm1 ma m) e P ↔ WE ma e (kM1 fm1 m P) := by
  have := kStr (e := e) (m := ma) (Pi := fun e z => WE m e (kM1b fm1 z P))
  simp only [WE, WV, kM1b, kM1c, eM1, wp_bind, wp_some] at this ⊢
  exact this
theorem kM0_eq : kM0 fm0 P e (.fz (.str z)) ↔ Wp (fm0 z) (P e) := Iff.rfl
theorem kM1_eq : kM1 fm1 m P e (.fz (.str z)) ↔ WE m e (kM1b fm1 z P) := Iff.rfl
theorem kM1b_eq : kM1b fm1 z P e r ↔ WV r e (kM1c fm1 z P e) := Iff.rfl
theorem kM1c_eq : kM1c fm1 z P e d ↔ Wp (fm1 z d) (P e) := Iff.rfl
end

/-! ### targets, walks -/
section
variable {e : MEnv} {i j n : Nat} {d : PyData} {ds : List PyData} {x : SV} {r : RV} {P : MEnv → Prop} {Pi : MEnv → List PyData → Prop} {m ma mb : ME} {g : MG} {gs : MGs}
def kGSlot (i : Nat) (d : PyData) (e : MEnv) (P : MEnv → Prop) (x : SV) : Prop := x.lock = false ∧ P (e.set i (.fz d))
theorem not_true {b : Bool} : ¬ b = true ↔ b = false := by cases b <;> simp
theorem wg_slot : WG (gSlot i) d e P ↔ WX e i (kGSlot i d e P) := by
  unfold WG WX gSlot
  rw [wp_bind]
  refine ⟨fun h => h.imp fun x h => ?_, fun h => h.imp fun x h => ?_⟩
  · by_cases hl : x.lock = true
    · rw [if_pos hl] at h; exact (wp_none.mp h).elim
    · rw [if_neg hl] at h; exact ⟨not_true.mp hl, (wp_some.mp h :)⟩
  · rw [if_neg (not_true.mpr h.1)]; exact wp_some.mpr h.2
theorem kGSlot_eq : kGSlot i d e P x ↔ x.lock = false ∧ P (e.set i (.fz d)) := Iff.rfl
def kGs (gs : MGs) (ds : List PyData) (P : MEnv → Prop) (e : MEnv) : Prop := WGs gs ds e P
theorem wgs_nil : WGs gsNil [] e P ↔ P e := wp_some
theorem wgs_cons : WGs (gsCons g gs) (d :: ds) e P ↔ WG g d e (kGs gs ds P) := wp_bind
theorem kGs_eq : kGs gs ds P e ↔ WGs gs ds e P := Iff.rfl
theorem wg_unp : WG (gUnp n gs) (.tuple ds) e P ↔ ds.length = n ∧ WGs gs ds e P := wp_guard
def kIAny (Pi : MEnv → List PyData → Prop) (e : MEnv) : PyData → Prop
  | .list ds => Pi e ds
  | .tuple ds => Pi e ds
  | .str x => Pi e (signD x)
  | _ => False
def kIAnyA (Pi : MEnv → List PyData → Prop) (e : MEnv) (r : RV) : Prop := WF r e (kIAny Pi)
theorem wi_any : WI (iAny m) e Pi ↔ WE m e (kIAnyA Pi) := by
  simp only [WI, WE, WF, iAny, kIAnyA, wp_bind]
  refine ⟨fun h => h.imp fun x h => h.imp fun y h => ?_, fun h => h.imp fun x h => h.imp fun y h => ?_⟩
  · obtain ⟨y1, y2⟩ := y
    cases y2 <;> first | exact (wp_some.mp h :) | exact (wp_none.mp h).elim
  · obtain ⟨y1, y2⟩ := y
    cases y2 <;> first | exact wp_some.mpr h | exact h.elim
theorem kIAnyA_eq : kIAnyA Pi e r ↔ WF r e (kIAny Pi) := Iff.rfl
theorem kIAny_l : kIAny Pi e (.list ds) ↔ Pi e ds := Iff.rfl
theorem kIAny_t : kIAny Pi e (.tuple ds) ↔ Pi e ds := Iff.rfl
theorem kIAny_s {z : Str} : kIAny Pi e (.str z) ↔ Pi e (signD z) := Iff.rfl
def rangeD (lo hi : Int) : List PyData := (List.range (hi - lo).toNat).map fun k => PyData.int (lo + (k : Nat))
def kR1 (Pi : MEnv → List PyData → Prop) (e : MEnv) : RV → Prop
  | .fz (.int j) => (-(2 ^ 62) ≤ j ∧ j < 2 ^ 62) ∧ Pi e (rangeD 0 j)
  | _ => False
def kR2b (i : Int) (Pi : MEnv → List PyData → Prop) (e : MEnv) (j : Int) : Prop := (-(2 ^ 62) ≤ i ∧ i < 2 ^ 62 ∧ -(2 ^ 62) ≤ j ∧ j < 2 ^ 62) ∧ Pi e (rangeD i j)
def kR2a (r : RV) (Pi : MEnv → List PyData → Prop) (e : MEnv) (r2 : RV) : Prop := ∃ i, intOf r = some i ∧ ∃ j, intOf r2 = some j ∧ kR2b i Pi e j
def kR2 (mb : ME) (Pi : MEnv → List PyData → Prop) (e : MEnv) (r : RV) : Prop := WE mb e (kR2a r Pi)
theorem rangeD_0 (j : Int) : rangeD 0 j = (List.range j.toNat).map fun i => PyData.int (0 + (i : Nat)) := by
  unfold rangeD
  rw [Int.sub_zero]
theorem wi_r1 : WI (iRange1 m) e Pi ↔ WE m e (kR1 Pi) := by
  have := kInt (e := e) (m := m) (Pi := fun e j => (-(2 ^ 62) ≤ j ∧ j < 2 ^ 62) ∧ Pi e (rangeD 0 j))
  simp only [WI, iRange1, wp_bind, wp_guard, wp_some]
  simp only [rangeD_0] at this
  refine this.trans ?_
  unfold WE
  refine ⟨fun h => h.imp fun x h => ?_, fun h => h.imp fun x h => ?_⟩
  · unfold kR1
    dsimp only at h
    split at h
    · rename_i hx; rw [rangeD_0]; exact h
    · exact h.elim
  · unfold kR1 at h
    split at h
    · rename_i hx; rw [hx]; rw [rangeD_0] at h; exact h
    · exact h.elim
theorem wi_r2 : WI (iRange2 ma mb) e Pi ↔ WE ma e (kR2 mb Pi) := by
  simp only [WI, iRange2, WE, wp_bind, wp_guard, wp_some]
  try exact Iff.rfl
theorem kR1_eq {j : Int} : kR1 Pi e (.fz (.int j)) ↔ (-(2 ^ 62) ≤ j ∧ j < 2 ^ 62) ∧ Pi e (rangeD 0 j) := Iff.rfl
theorem kR2_eq : kR2 mb Pi e r ↔ WE mb e (kR2a r Pi) := Iff.rfl
theorem kR2a_eq {i j : Int} : kR2a (.fz (.int i)) Pi e (.fz (.int j)) ↔ (-(2 ^ 62) ≤ i ∧ i < 2 ^ 62 ∧ -(2 ^ 62) ≤ j ∧ j < 2 ^ 62) ∧ Pi e (rangeD i j) :=
  ⟨fun ⟨_, h1, _, h2, h⟩ => by cases h1; cases h2; exact h, fun h => ⟨_, rfl, _, rfl, h⟩⟩
end

/-! ### comprehensions -/
section
variable {e e' : MEnv} {d : PyData} {ds acc : List PyData} {r : RV} {b : Bool} {g : MG} {t : MT} {m : ME} {mi : MI} {vs : List Nat} {P : MEnv → RV → Prop} {J : MEnv → List PyData → Prop}
def kLcE (vs : List Nat) (e : MEnv) (P : MEnv → RV → Prop) (p : MEnv × List PyData) : Prop := P (backE e p.1 vs) (.own (.list p.2))
def kLc (vs : List Nat) (g : MG) (t : MT) (m : ME) (P : MEnv → RV → Prop) (e : MEnv) (ds : List PyData) : Prop := unlocked e vs = true ∧ Wp (lcLoop g t m vs ds (wipeE e vs) []) (kLcE vs e P)
theorem we_lc : WE (eLc vs g mi t m) e P ↔ WI mi e (kLc vs g t m P) := by
  simp only [WE, WI, eLc, wp_bind, wp_guard, wp_some]
  try exact Iff.rfl
theorem kLc_eq : kLc vs g t m P e ds ↔ unlocked e vs = true ∧ Wp (lcLoop g t m vs ds (wipeE e vs) []) (kLcE vs e P) := Iff.rfl
theorem kLcE_eq : kLcE vs e P (e', acc) ↔ P (backE e e' vs) (.own (.list acc)) := Iff.rfl
def kLcF (vs : List Nat) (J : MEnv → List PyData → Prop) (acc : List PyData) (e : MEnv) (d : PyData) : Prop := J (wipeE e vs) (acc ++ [d])
def kLcR (vs : List Nat) (J : MEnv → List PyData → Prop) (acc : List PyData) (e : MEnv) (r : RV) : Prop := WF r e (kLcF vs J acc)
def kLcB (vs : List Nat) (m : ME) (J : MEnv → List PyData → Prop) (acc : List PyData) (e : MEnv) (b : Bool) : Prop := if b = true then WE m e (kLcR vs J acc) else J (wipeE e vs) acc
def kLcT (vs : List Nat) (t : MT) (m : ME) (J : MEnv → List PyData → Prop) (acc : List PyData) (e : MEnv) : Prop := WT t e (kLcB vs m J acc)
theorem kLcF_eq : kLcF vs J acc e d ↔ J (wipeE e vs) (acc ++ [d]) := Iff.rfl
theorem kLcR_eq : kLcR vs J acc e r ↔ WF r e (kLcF vs J acc) := Iff.rfl
theorem kLcT_eq : kLcT vs t m J acc e ↔ WT t e (kLcB vs m J acc) := Iff.rfl
theorem kLcB_t : kLcB vs m J acc e true ↔ WE m e (kLcR vs J acc) := by simp [kLcB]
theorem kLcB_f : kLcB vs m J acc e false ↔ J (wipeE e vs) acc := by simp [kLcB]
theorem kLcB_i (h : b = true → WE m e (kLcR vs J acc)) (h' : b = false → J (wipeE e vs) acc) : kLcB vs m J acc e b := by
  cases b with
  | true => exact kLcB_t.mpr (h rfl)
  | false => exact kLcB_f.mpr (h' rfl)
theorem wt_yes {Pt : MEnv → Bool → Prop} : WT mYes e Pt ↔ Pt e true := wp_some
/-- one turn -/
theorem wlc_cons {Q : MEnv × List PyData → Prop} : Wp (lcLoop g t m vs (d :: ds) e acc) Q ↔ WG g d e (kLcT vs t m (fun e1 a1 => (acc.length < a1.length → acc.length < lineN) ∧ Wp (lcLoop g t m vs ds e1 a1) Q) acc) := by
  simp only [lcLoop, WG, wp_bind]
  refine ⟨fun h => Wp.imp h fun x h => Wp.imp h fun y h => ?_, fun h => Wp.imp h fun x h => Wp.imp h fun y h => ?_⟩
  · unfold kLcB
    split
    · rename_i hy
      rw [if_pos hy] at h
      refine Wp.imp (wp_bind.mp h) fun z h => Wp.imp (wp_bind.mp h) fun w h => ?_
      have h := wp_guard.mp h
      exact ⟨fun _ => h.1, h.2⟩
    · rename_i hy
      rw [if_neg hy] at h
      exact ⟨fun z => (Nat.lt_irrefl _ z).elim, h⟩
  · unfold kLcB at h
    split
    · rename_i hy
      rw [if_pos hy] at h
      refine wp_bind.mpr (Wp.imp h fun z h => wp_bind.mpr (Wp.imp h fun w h => ?_))
      exact wp_guard.mpr ⟨h.1 (by simp), h.2⟩
    · rename_i hy
      rw [if_neg hy] at h
      exact h.2
/-- a walk by an invariant: of the number of turns, the slots, what is gathered -/
theorem wlc (J : Nat → MEnv → List PyData → Prop) {Q : MEnv × List PyData → Prop} (hl : ds.length ≤ lineN) (h0 : J 0 e []) (hs : ∀ i d, ds[i]? = some d → ∀ e acc, J i e acc → acc.length ≤ i → WG g d e (kLcT vs t m (J (i + 1)) acc)) (hn : ∀ e acc, J ds.length e acc → acc.length ≤ ds.length → Q (e, acc)) :
    Wp (lcLoop g t m vs ds e []) Q := by
  suffices h : ∀ (ds' : List PyData) (k : Nat) (e : MEnv) (acc : List PyData), ds.drop k = ds' → k ≤ ds.length → J k e acc → acc.length ≤ k → Wp (lcLoop g t m vs ds' e acc) Q from h ds 0 e [] rfl (Nat.zero_le _) h0 (Nat.le_refl _)
  intro ds'
  induction ds' with
  | nil =>
    intro k e acc hd hk hj hl
    have : k = ds.length := Nat.le_antisymm hk (by
      have := congrArg List.length hd
      simp at this; omega)
    subst this
    exact wp_some.mpr (hn e acc hj hl)
  | cons d ds' ih =>
    intro k e acc hd hk hj hl'
    have hd0 : ds[k]? = some d := by
      have := congrArg (fun l => l[0]?) hd
      simpa using this
    have hk' : k < ds.length := (List.getElem?_eq_some_iff.mp hd0).1
    have hd1 : ds.drop (k + 1) = ds' := by
      rw [← List.tail_drop, hd]; rfl
    rw [wlc_cons]
    have h1 := hs k d hd0 e acc hj hl'
    have mono : ∀ (e1 : MEnv) (a1 : List PyData), a1.length ≤ acc.length + 1 → J (k + 1) e1 a1 → (acc.length < a1.length → acc.length < lineN) ∧ Wp (lcLoop g t m vs ds' e1 a1) Q := fun e1 a1 hl1 hj1 => ⟨fun _ => by omega, ih (k + 1) e1 a1 hd1 (by omega) hj1 (by omega)⟩
    refine Wp.imp h1 fun e1 h1 => Wp.imp h1 fun p h1 => ?_
    unfold kLcB at h1 ⊢
    split
    · rename_i hp
      rw [if_pos hp] at h1
      exact Wp.imp h1 fun q h1 => Wp.imp h1 fun s h1 => mono _ _ (by simp) h1
    · rename_i hp
      rw [if_neg hp] at h1
      exact mono _ _ (by omega) h1
/-- .. where each turn gathers one thing and R holds of it -/
theorem wlc_all (I : MEnv → Prop) (R : PyData → Prop) {Q : MEnv × List PyData → Prop} (hl : ds.length ≤ lineN) (h0 : I e) (hs : ∀ d, d ∈ ds → ∀ e acc, I e → WG g d e (kLcT vs t m (fun e1 a1 => I e1 ∧ ∃ x, a1 = acc ++ [x] ∧ R x) acc)) (hn : ∀ e acc, I e → acc.length = ds.length → (∀ x ∈ acc, R x) → Q (e, acc)) :
    Wp (lcLoop g t m vs ds e []) Q := by
  refine wlc (fun i e acc => I e ∧ acc.length = i ∧ ∀ x ∈ acc, R x) hl ⟨h0, rfl, fun x h => by cases h⟩ (fun i d hd e acc hj _ => ?_) fun e acc hj _ => hn e acc hj.1 hj.2.1 hj.2.2
  have h1 := hs d (List.mem_of_getElem? hd) e acc hj.1
  refine Wp.imp h1 fun e1 h1 => Wp.imp h1 fun p h1 => ?_
  have fin : ∀ (e1 : MEnv) (a1 : List PyData), (I e1 ∧ ∃ x, a1 = acc ++ [x] ∧ R x) → I e1 ∧ a1.length = i + 1 ∧ ∀ x ∈ a1, R x := fun e1 a1 ⟨h1, x, h2, h3⟩ => by
    subst h2
    refine ⟨h1, by simp [hj.2.1], fun y hy => ?_⟩
    rcases List.mem_append.mp hy with hy | hy
    · exact hj.2.2 y hy
    · rw [List.mem_singleton.mp hy]; exact h3
  unfold kLcB at h1 ⊢
  split
  · rename_i hp
    rw [if_pos hp] at h1
    exact Wp.imp h1 fun q h1 => Wp.imp h1 fun s h1 => fin _ _ h1
  · rename_i hp
    rw [if_neg hp] at h1
    exact fin _ _ h1
/-- .. what each turn gathers is a function of the thing, and the slots stay -/
theorem wlc_map (f : PyData → PyData) {Q : MEnv × List PyData → Prop} (hl : ds.length ≤ lineN) (hs : ∀ d, d ∈ ds → ∀ acc, WG g d e (kLcT vs t m (fun e1 a1 => e1 = e ∧ a1 = acc ++ [f d]) acc)) (hn : Q (e, ds.map f)) :
    Wp (lcLoop g t m vs ds e []) Q := by
  refine wlc (fun i e1 acc => e1 = e ∧ acc = (ds.take i).map f) hl ⟨rfl, by simp⟩ (fun i d hd e1 acc hj _ => ?_) fun e1 acc hj _ => ?_
  · obtain ⟨rfl, ha⟩ := hj
    have h1 := hs d (List.mem_of_getElem? hd) acc
    have e2 : (ds.take (i + 1)).map f = acc ++ [f d] := by
      rw [List.take_add_one, hd, List.map_append, ← ha]
      rfl
    rw [e2]
    exact h1
  · obtain ⟨rfl, ha⟩ := hj
    rw [List.take_length] at ha
    subst ha
    exact hn
end

/-! ### statements -/
section
variable {e : MEnv} {i j n : Nat} {d : PyData} {ds : List PyData} {x : SV} {r : RV} {b : Bool} {P : Out → Prop} {m mi me : ME} {g : MG} {a c body : MS} {t : MT} {it : MI} {o : Out}
theorem ws_skip : WS sSkip e P ↔ P (.nx e) := wp_some
def kSeq (b : MS) (P : Out → Prop) : Out → Prop
  | .nx e => WS b e P
  | o => P o
theorem ws_seq : WS (sSeq a c) e P ↔ WS a e (kSeq c P) := by
  simp only [WS, sSeq, wp_bind]
  refine ⟨fun h => h.imp fun o h => ?_, fun h => h.imp fun o h => ?_⟩
  · cases o <;> first | exact h | exact (wp_some.mp h :)
  · cases o <;> first | exact h | exact wp_some.mpr h
theorem kSeq_nx : kSeq c P (.nx e) ↔ WS c e P := Iff.rfl
theorem kSeq_rt : kSeq c P (.rt r e) ↔ P (.rt r e) := Iff.rfl
theorem kSeq_bk : kSeq c P (.bk e) ↔ P (.bk e) := Iff.rfl
theorem kSeq_ct : kSeq c P (.ct e) ↔ P (.ct e) := Iff.rfl
def kExpr (P : Out → Prop) (e : MEnv) (r : RV) : Prop := P (.nx e)
theorem ws_expr : WS (sExpr m) e P ↔ WE m e (kExpr P) := by
  simp only [WS, WE, sExpr, wp_bind, wp_some]
  try exact Iff.rfl
theorem kExpr_eq : kExpr P e r ↔ P (.nx e) := Iff.rfl
def kSetP (i j : Nat) (P : Out → Prop) (e : MEnv) (y : SV) : Prop := Wp y.view fun d => P (.nx ((e.set j y.freeze).set i (.fz d)))
def kSetV (i : Nat) (P : Out → Prop) (e : MEnv) : RV → Prop
  | .fz d => P (.nx (e.set i (.fz d)))
  | .own d => P (.nx (e.set i (.own d)))
  | .plc j => WX e j (kSetP i j P e)
def kSetL (i : Nat) (P : Out → Prop) (e : MEnv) (r : RV) (x : SV) : Prop := x.lock = false ∧ kSetV i P e r
def kSet (i : Nat) (P : Out → Prop) (e : MEnv) (r : RV) : Prop := WX e i (kSetL i P e r)
theorem ws_set : WS (sSet i m) e P ↔ WE m e (kSet i P) := by
  simp only [WS, WE, sSet, kSet, WX, kSetL, wp_bind]
  refine ⟨fun h => h.imp fun p h => h.imp fun x h => ?_, fun h => h.imp fun p h => h.imp fun x h => ?_⟩
  · by_cases hl : x.lock = true
    · rw [if_pos hl] at h; exact (wp_none.mp h).elim
    · rw [if_neg hl] at h
      refine ⟨not_true.mp hl, ?_⟩
      obtain ⟨p1, p2⟩ := p
      cases p2 with
      | fz d => exact (wp_some.mp h :)
      | own d => exact (wp_some.mp h :)
      | plc j =>
        have h := wp_bind.mp h
        exact h.imp fun y h => Wp.imp (wp_bind.mp h) fun d h => (wp_some.mp h :)
  · rw [if_neg (not_true.mpr h.1)]
    obtain ⟨p1, p2⟩ := p
    cases p2 with
    | fz d => exact wp_some.mpr h.2
    | own d => exact wp_some.mpr h.2
    | plc j => exact wp_bind.mpr (Wp.imp h.2 fun y h => wp_bind.mpr (Wp.imp h fun d h => wp_some.mpr h))
theorem kSet_eq : kSet i P e r ↔ WX e i (kSetL i P e r) := Iff.rfl
theorem kSetL_eq : kSetL i P e r x ↔ x.lock = false ∧ kSetV i P e r := Iff.rfl
theorem kSetV_fz : kSetV i P e (.fz d) ↔ P (.nx (e.set i (.fz d))) := Iff.rfl
theorem kSetV_own : kSetV i P e (.own d) ↔ P (.nx (e.set i (.own d))) := Iff.rfl
theorem kSetV_plc : kSetV i P e (.plc j) ↔ WX e j (kSetP i j P e) := Iff.rfl
theorem kSetP_own : kSetP i j P e (.own d) ↔ P (.nx ((e.set j (.fz d)).set i (.fz d))) := wp_some
theorem kSetP_ref : kSetP i j P e (.ref d) ↔ P (.nx ((e.set j (.rfz d)).set i (.fz d))) := wp_some
theorem kSetP_fz : kSetP i j P e (.fz d) ↔ P (.nx ((e.set j (.fz d)).set i (.fz d))) := wp_some
def kAsgB (P : Out → Prop) (e : MEnv) : Prop := P (.nx e)
def kAsg (g : MG) (P : Out → Prop) (e : MEnv) : RV → Prop
  | .fz d => WG g d e (kAsgB P)
  | _ => False
theorem ws_asg : WS (sAsg g m) e P ↔ WE m e (kAsg g P) := by
  simp only [WS, WE, sAsg, wp_bind]
  refine ⟨fun h => h.imp fun p h => ?_, fun h => h.imp fun p h => ?_⟩
  · obtain ⟨p1, p2⟩ := p
    cases p2 with
    | fz d => exact Wp.imp (wp_bind.mp h) fun y h => (wp_some.mp h :)
    | own d => exact (wp_none.mp h).elim
    | plc j => exact (wp_none.mp h).elim
  · obtain ⟨p1, p2⟩ := p
    cases p2 with
    | fz d => exact wp_bind.mpr (Wp.imp h fun y h => wp_some.mpr h)
    | own d => exact h.elim
    | plc j => exact h.elim
theorem kAsg_fz : kAsg g P e (.fz d) ↔ WG g d e (kAsgB P) := Iff.rfl
theorem kAsgB_eq : kAsgB P e ↔ P (.nx e) := Iff.rfl
def kRetP (i : Nat) (P : Out → Prop) (e : MEnv) : SV → Prop
  | .own d => P (.rt (.own d) (e.set i .unb))
  | .ref d => P (.rt (.fz d) (e.set i (.rfz d)))
  | .fz d => P (.rt (.fz d) (e.set i (.fz d)))
  | .rfz d => P (.rt (.fz d) (e.set i (.rfz d)))
  | .unb => False
def kRet (P : Out → Prop) (e : MEnv) : RV → Prop
  | .fz d => P (.rt (.fz d) e)
  | .own d => P (.rt (.own d) e)
  | .plc i => WX e i (kRetP i P e)
theorem ws_ret : WS (sRet m) e P ↔ WE m e (kRet P) := by
  simp only [WS, WE, sRet, wp_bind]
  refine ⟨fun h => h.imp fun p h => ?_, fun h => h.imp fun p h => ?_⟩
  · obtain ⟨p1, p2⟩ := p
    cases p2 with
    | fz d => exact (wp_some.mp h :)
    | own d => exact (wp_some.mp h :)
    | plc i =>
      refine (wp_bind.mp h).imp fun x h => ?_
      cases x with
      | own d => exact (wp_some.mp h :)
      | ref d => exact ((wp_some.mp ((wp_some.mp (wp_bind.mp h :) :)) :))
      | fz d => exact ((wp_some.mp ((wp_some.mp (wp_bind.mp h :) :)) :))
      | rfz d => exact ((wp_some.mp ((wp_some.mp (wp_bind.mp h :) :)) :))
      | unb => exact (wp_none.mp (wp_bind.mp h)).elim
  · obtain ⟨p1, p2⟩ := p
    cases p2 with
    | fz d => exact wp_some.mpr h
    | own d => exact wp_some.mpr h
    | plc i =>
      refine wp_bind.mpr (Wp.imp h fun x h => ?_)
      cases x with
      | own d => exact wp_some.mpr h
      | ref d => exact wp_bind.mpr (wp_some.mpr (wp_some.mpr h))
      | fz d => exact wp_bind.mpr (wp_some.mpr (wp_some.mpr h))
      | rfz d => exact wp_bind.mpr (wp_some.mpr (wp_some.mpr h))
      | unb => exact h.elim
theorem kRet_fz : kRet P e (.fz d) ↔ P (.rt (.fz d) e) := Iff.rfl
theorem kRet_own : kRet P e (.own d) ↔ P (.rt (.own d) e) := Iff.rfl
theorem kRet_plc : kRet P e (.plc i) ↔ WX e i (kRetP i P e) := Iff.rfl
theorem kRetP_own : kRetP i P e (.own d) ↔ P (.rt (.own d) (e.set i .unb)) := Iff.rfl
theorem kRetP_ref : kRetP i P e (.ref d) ↔ P (.rt (.fz d) (e.set i (.rfz d))) := Iff.rfl
theorem ws_retN : WS sRetN e P ↔ P (.rt (.fz .none) e) := wp_some
def kIf (a c : MS) (P : Out → Prop) (e : MEnv) (b : Bool) : Prop := if b = true then WS a e P else WS c e P
theorem ws_if : WS (sIf t a c) e P ↔ WT t e (kIf a c P) := by
  simp only [WS, WT, sIf, wp_bind, wp_ite']
  try exact Iff.rfl
theorem kIf_t : kIf a c P e true ↔ WS a e P := by simp [kIf]
theorem kIf_f : kIf a c P e false ↔ WS c e P := by simp [kIf]
theorem kIf_i (h : b = true → WS a e P) (h' : b = false → WS c e P) : kIf a c P e b := by
  cases b with
  | true => exact kIf_t.mpr (h rfl)
  | false => exact kIf_f.mpr (h' rfl)
theorem ws_brk : WS sBrk e P ↔ P (.bk e) := wp_some
theorem ws_cnt : WS sCnt e P ↔ P (.ct e) := wp_some
/-- loops -/
def kFor (g : MG) (body : MS) (P : Out → Prop) (e : MEnv) (ds : List PyData) : Prop := Wp (forLoop g body ds e) P
theorem ws_for : WS (sFor g it body) e P ↔ WI it e (kFor g body P) := wp_bind
theorem kFor_eq : kFor g body P e ds ↔ Wp (forLoop g body ds e) P := Iff.rfl
def kLoop (I : MEnv → Prop) (P : Out → Prop) : Out → Prop
  | .nx e => I e
  | .ct e => I e
  | .bk e => P (.nx e)
  | .rt r e => P (.rt r e)
theorem kLoop_nx {I : MEnv → Prop} : kLoop I P (.nx e) ↔ I e := Iff.rfl
theorem kLoop_ct {I : MEnv → Prop} : kLoop I P (.ct e) ↔ I e := Iff.rfl
theorem kLoop_bk {I : MEnv → Prop} : kLoop I P (.bk e) ↔ P (.nx e) := Iff.rfl
theorem kLoop_rt {I : MEnv → Prop} : kLoop I P (.rt r e) ↔ P (.rt r e) := Iff.rfl
def kBody (body : MS) (P : Out → Prop) (e : MEnv) : Prop := WS body e P
theorem kBody_eq : kBody body P e ↔ WS body e P := Iff.rfl
theorem wfor_nil : Wp (forLoop g body [] e) P ↔ P (.nx e) := wp_some
theorem wfor_cons : Wp (forLoop g body (d :: ds) e) P ↔ WG g d e (kBody body (kLoop (fun e => Wp (forLoop g body ds e) P) P)) := by
  simp only [WG, WS, kBody, forLoop, wp_bind]
  refine ⟨fun h => h.imp fun e h => h.imp fun o h => ?_, fun h => h.imp fun e h => h.imp fun o h => ?_⟩
  · cases o <;> first | exact h | exact (wp_some.mp h :)
  · cases o <;> first | exact h | exact wp_some.mpr h
theorem kLoop.imp {I J : MEnv → Prop} (i : ∀ e, I e → J e) (h : kLoop I P o) : kLoop J P o := by
  cases o with
  | nx e => exact i e h
  | ct e => exact i e h
  | bk e => exact h
  | rt r e => exact h
/-- by an invariant of the number of turns -/
theorem wfor (I : Nat → MEnv → Prop) (h0 : I 0 e) (hs : ∀ i d, ds[i]? = some d → ∀ e, I i e → WG g d e (kBody body (kLoop (I (i + 1)) P))) (hn : ∀ e, I ds.length e → P (.nx e)) : Wp (forLoop g body ds e) P := by
  suffices h : ∀ (ds' : List PyData) (k : Nat) (e : MEnv), ds.drop k = ds' → k ≤ ds.length → I k e → Wp (forLoop g body ds' e) P from h ds 0 e rfl (Nat.zero_le _) h0
  intro ds'
  induction ds' with
  | nil =>
    intro k e hd hk hj
    have : k = ds.length := Nat.le_antisymm hk (by
      have := congrArg List.length hd
      simp at this; omega)
    subst this
    exact wp_some.mpr (hn e hj)
  | cons d ds' ih =>
    intro k e hd hk hj
    have hd0 : ds[k]? = some d := by
      have := congrArg (fun l => l[0]?) hd
      simpa using this
    have hk' : k < ds.length := (List.getElem?_eq_some_iff.mp hd0).1
    have hd1 : ds.drop (k + 1) = ds' := by
      rw [← List.tail_drop, hd]; rfl
    rw [wfor_cons]
    refine Wp.imp (hs k d hd0 e hj) fun e1 h1 => Wp.imp h1 fun o h1 => kLoop.imp (fun e2 h2 => ih (k + 1) e2 hd1 (by omega) h2) h1
/-- .. of no number -/
theorem wfor_all (I : MEnv → Prop) (h0 : I e) (hs : ∀ d, d ∈ ds → ∀ e, I e → WG g d e (kBody body (kLoop I P))) (hn : ∀ e, I e → P (.nx e)) : Wp (forLoop g body ds e) P :=
  wfor (fun _ => I) h0 (fun i d hd e h => hs d (List.mem_of_getElem? hd) e h) hn
/-- stores -/
def WL (e : MEnv) (i : Nat) (P : SV × List PyData → Prop) : Prop := Wp (ownL e i) P
def kOwnL (P : SV × List PyData → Prop) : SV → Prop
  | .own (.list ds) => P (.own (.list ds), ds)
  | .ref (.list ds) => P (.ref (.list ds), ds)
  | _ => False
theorem wl_eq {Q : SV × List PyData → Prop} : WL e i Q ↔ WX e i (kOwnL Q) := by
  unfold WL WX ownL
  rw [wp_bind]
  refine ⟨fun h => h.imp fun x h => ?_, fun h => h.imp fun x h => ?_⟩
  · cases x with
    | own d => cases d <;> first | exact (wp_some.mp h :) | exact (wp_none.mp h).elim
    | ref d => cases d <;> first | exact (wp_some.mp h :) | exact (wp_none.mp h).elim
    | _ => exact (wp_none.mp h).elim
  · cases x with
    | own d => cases d <;> first | exact wp_some.mpr h | exact h.elim
    | ref d => cases d <;> first | exact wp_some.mpr h | exact h.elim
    | _ => exact h.elim
theorem kOwnL_own {Q : SV × List PyData → Prop} : kOwnL Q (.own (.list ds)) ↔ Q (.own (.list ds), ds) := Iff.rfl
theorem kOwnL_ref {Q : SV × List PyData → Prop} : kOwnL Q (.ref (.list ds)) ↔ Q (.ref (.list ds), ds) := Iff.rfl
def kSI5 (o : Nat) (i : Int) (d : PyData) (P : Out → Prop) (e : MEnv) (w : SV × List PyData) : Prop := ∃ j, ixN w.2.length i = some j ∧ P (.nx (e.set o (w.1.put (.list (w.2.set j d)))))
def kSI4 (o : Nat) (i : Int) (P : Out → Prop) (e : MEnv) (d : PyData) : Prop := WL e o (kSI5 o i d P e)
def kSI3 (o : Nat) (r : RV) (P : Out → Prop) (e : MEnv) : RV → Prop
  | .fz (.int i) => WF r e (kSI4 o i P)
  | _ => False
def kSI2 (o : Nat) (mi : ME) (r : RV) (P : Out → Prop) (e : MEnv) (w : SV × List PyData) : Prop := WE mi e (kSI3 o r P)
def kSI1 (o : Nat) (mi : ME) (P : Out → Prop) (e : MEnv) (r : RV) : Prop := WL e o (kSI2 o mi r P e)
theorem ws_setIx {o : Nat} : WS (sSetIx o mi me) e P ↔ WE me e (kSI1 o mi P) := by
  simp only [WS, WE, WL, sSetIx, kSI1, kSI2, wp_bind]
  refine ⟨fun h => h.imp fun p h => h.imp fun w h => ?_, fun h => h.imp fun p h => h.imp fun w h => ?_⟩
  · refine h.imp fun q h => ?_
    obtain ⟨i, hi, h⟩ := h
    rw [intOf_some hi]
    refine Wp.imp h fun s h => h.imp fun w h => ?_
    obtain ⟨j, hj, h⟩ := h
    exact ⟨j, hj, (wp_some.mp h :)⟩
  · refine Wp.imp h fun q h => ?_
    unfold kSI3 at h
    split at h
    · rename_i hq
      refine ⟨_, by rw [hq]; rfl, Wp.imp h fun s h => Wp.imp h fun w h => ?_⟩
      obtain ⟨j, hj, h⟩ := h
      exact ⟨j, hj, wp_some.mpr h⟩
    · exact h.elim
theorem kSI1_eq {o : Nat} : kSI1 o mi P e r ↔ WL e o (kSI2 o mi r P e) := Iff.rfl
theorem kSI2_eq {o : Nat} {w : SV × List PyData} : kSI2 o mi r P e w ↔ WE mi e (kSI3 o r P) := Iff.rfl
theorem kSI3_eq {o : Nat} {i : Int} : kSI3 o r P e (.fz (.int i)) ↔ WF r e (kSI4 o i P) := Iff.rfl
theorem kSI4_eq {o : Nat} {i : Int} : kSI4 o i P e d ↔ WL e o (kSI5 o i d P e) := Iff.rfl
theorem kSI5_eq {o : Nat} {i : Int} {x : SV} : kSI5 o i d P e (x, ds) ↔ Wp (ixN ds.length i) fun j => P (.nx (e.set o (x.put (.list (ds.set j d))))) := Iff.rfl
variable {Pe : MEnv → RV → Prop}
def kAp3 (o : Nat) (d : PyData) (P : MEnv → RV → Prop) (e : MEnv) (w : SV × List PyData) : Prop := w.2.length < lineN ∧ P (e.set o (w.1.put (.list (w.2 ++ [d])))) (.fz .none)
def kAp2 (o : Nat) (P : MEnv → RV → Prop) (e : MEnv) (d : PyData) : Prop := WL e o (kAp3 o d P e)
def kAp1 (o : Nat) (P : MEnv → RV → Prop) (e : MEnv) (r : RV) : Prop := WF r e (kAp2 o P)
def kAp0 (o : Nat) (me : ME) (P : MEnv → RV → Prop) (e : MEnv) (w : SV × List PyData) : Prop := WE me e (kAp1 o P)
theorem we_app {o : Nat} : WE (eApp o me) e Pe ↔ WL e o (kAp0 o me Pe e) := by
  simp only [WE, WL, WF, eApp, wp_bind, wp_guard, wp_some]
  exact Iff.rfl
theorem kAp0_eq {o : Nat} {w : SV × List PyData} : kAp0 o me Pe e w ↔ WE me e (kAp1 o Pe) := Iff.rfl
theorem kAp1_eq {o : Nat} : kAp1 o Pe e r ↔ WF r e (kAp2 o Pe) := Iff.rfl
theorem kAp2_eq {o : Nat} : kAp2 o Pe e d ↔ WL e o (kAp3 o d Pe e) := Iff.rfl
theorem kAp3_eq {o : Nat} {x : SV} : kAp3 o d Pe e (x, ds) ↔ ds.length < lineN ∧ Pe (e.set o (x.put (.list (ds ++ [d])))) (.fz .none) := Iff.rfl
end

/-! ### defs -/
section
variable {e e' : MEnv} {as bs : List SV} {x y : SV} {d d' : PyData} {r : RV} {rs : List RV} {i n l : Nat} {C : CF} {ms : MA} {body : MS} {P : MEnv → RV → Prop} {Pc : List SV → RV → Prop}
def kUsr3 (rs : List RV) (e : MEnv) (P : MEnv → RV → Prop) (bs : List SV) : RV → Prop
  | .plc _ => False
  | r => P (backSVs rs bs 0 e) r
def kUsr2 (rs : List RV) (e : MEnv) (P : MEnv → RV → Prop) (bs : List SV) (r : RV) : Prop := bs.all SV.plain = true ∧ kUsr3 rs e P bs r
def kUsr1 (C : CF) (rs : List RV) (e : MEnv) (P : MEnv → RV → Prop) (as : List SV) : Prop := (apart rs = true ∧ as.all SV.plain = true) ∧ WC C as (kUsr2 rs e P)
def kUsr (C : CF) (P : MEnv → RV → Prop) (e : MEnv) (rs : List RV) : Prop := Wp (argSVs e rs) (kUsr1 C rs e P)
theorem we_user : WE (eUser C ms) e P ↔ WA ms e (kUsr C P) := by
  simp only [WE, WA, WC, eUser, wp_bind, wp_guard]
  refine ⟨fun h => Wp.imp h fun p h => Wp.imp h fun q h => ⟨h.1, Wp.imp h.2 fun s h => ⟨h.1, ?_⟩⟩, fun h => Wp.imp h fun p h => Wp.imp h fun q h => ⟨h.1, Wp.imp h.2 fun s h => ⟨h.1, ?_⟩⟩⟩
  · have h := h.2
    obtain ⟨s1, s2⟩ := s
    cases s2 with
    | fz d => exact (wp_some.mp h :)
    | own d => exact (wp_some.mp h :)
    | plc i => exact (wp_none.mp h).elim
  · have h := h.2
    obtain ⟨s1, s2⟩ := s
    cases s2 with
    | fz d => exact wp_some.mpr h
    | own d => exact wp_some.mpr h
    | plc i => exact h.elim
theorem kUsr_eq : kUsr C P e rs ↔ Wp (argSVs e rs) (kUsr1 C rs e P) := Iff.rfl
theorem kUsr1_eq : kUsr1 C rs e P as ↔ (apart rs = true ∧ as.all SV.plain = true) ∧ WC C as (kUsr2 rs e P) := Iff.rfl
theorem kUsr2_eq : kUsr2 rs e P bs r ↔ bs.all SV.plain = true ∧ kUsr3 rs e P bs r := Iff.rfl
theorem kUsr3_fz : kUsr3 rs e P bs (.fz d) ↔ P (backSVs rs bs 0 e) (.fz d) := Iff.rfl
theorem kUsr3_own : kUsr3 rs e P bs (.own d) ↔ P (backSVs rs bs 0 e) (.own d) := Iff.rfl
/-- the arguments -/
def kArg2 (x : SV) (Q : List SV → Prop) (xs : List SV) : Prop := Q (x :: xs)
def kArg1 (rs : List RV) (e : MEnv) (Q : List SV → Prop) (x : SV) : Prop := Wp (argSVs e rs) (kArg2 x Q)
def kArgP (rs : List RV) (e : MEnv) (Q : List SV → Prop) : SV → Prop
  | .own d => kArg1 rs e Q (.own d)
  | .ref d => kArg1 rs e Q (.own d)
  | .fz d => kArg1 rs e Q (.fz d)
  | .rfz d => kArg1 rs e Q (.fz d)
  | .unb => False
theorem warg_nil {Q : List SV → Prop} : Wp (argSVs e []) Q ↔ Q [] := wp_some
theorem warg_fz {Q : List SV → Prop} : Wp (argSVs e (.fz d :: rs)) Q ↔ kArg1 rs e Q (.fz d) := by
  simp only [argSVs, argSV, wp_bind, wp_some]
  exact Iff.rfl
theorem warg_own {Q : List SV → Prop} : Wp (argSVs e (.own d :: rs)) Q ↔ kArg1 rs e Q (.own d) := by
  simp only [argSVs, argSV, wp_bind, wp_some]
  exact Iff.rfl
theorem warg_plc {Q : List SV → Prop} : Wp (argSVs e (.plc i :: rs)) Q ↔ WX e i (kArgP rs e Q) := by
  simp only [argSVs, argSV, WX, wp_bind]
  refine ⟨fun h => h.imp fun x h => ?_, fun h => h.imp fun x h => ?_⟩
  · cases x <;> first | exact (wp_none.mp h).elim | exact ((wp_some.mp h :)).imp fun y h => (wp_some.mp h :)
  · cases x <;> first | exact h.elim | exact wp_some.mpr (Wp.imp h fun y h => wp_some.mpr h)
theorem kArg1_eq {Q : List SV → Prop} : kArg1 rs e Q x ↔ Wp (argSVs e rs) (kArg2 x Q) := Iff.rfl
theorem kArg2_eq {Q : List SV → Prop} : kArg2 x Q as ↔ Q (x :: as) := Iff.rfl
theorem kArgP_own {Q : List SV → Prop} : kArgP rs e Q (.own d) ↔ kArg1 rs e Q (.own d) := Iff.rfl
theorem kArgP_ref {Q : List SV → Prop} : kArgP rs e Q (.ref d) ↔ kArg1 rs e Q (.own d) := Iff.rfl
theorem kArgP_fz {Q : List SV → Prop} : kArgP rs e Q (.fz d) ↔ kArg1 rs e Q (.fz d) := Iff.rfl
theorem kArgP_rfz {Q : List SV → Prop} : kArgP rs e Q (.rfz d) ↔ kArg1 rs e Q (.fz d) := Iff.rfl
/-- a def's own run -/
def kRunR (Pc : List SV → RV → Prop) (r : RV) (bs : List SV) : Prop := match r with
  | .plc _ => False
  | r => Pc bs r
def kRun (as : List SV) (Pc : List SV → RV → Prop) : Out → Prop
  | .rt r e => Wp (exitAll as e) (kRunR Pc r)
  | .nx e => Wp (exitAll as e) (kRunR Pc (.fz .none))
  | _ => False
theorem wc_run : WC (runF n l body) as Pc ↔ (as.length = n ∧ as.all SV.plain = true ∧ n ≤ l) ∧ WS body (as.map SV.enter ++ List.replicate (l - n) SV.unb) (kRun as Pc) := by
  simp only [WC, WS, runF, wp_bind, wp_guard]
  refine ⟨fun h => ⟨h.1, h.2.imp fun o h => ?_⟩, fun h => ⟨h.1, h.2.imp fun o h => ?_⟩⟩
  · cases o with
    | nx e => exact (wp_bind.mp h).imp fun bs h => (wp_some.mp h :)
    | rt r e =>
      refine (wp_bind.mp h).imp fun bs h => ?_
      cases r with
      | fz d => exact (wp_some.mp h :)
      | own d => exact (wp_some.mp h :)
      | plc i => exact (wp_none.mp h).elim
    | bk e => exact (wp_none.mp h).elim
    | ct e => exact (wp_none.mp h).elim
  · cases o with
    | nx e => exact wp_bind.mpr (Wp.imp h fun bs h => wp_some.mpr h)
    | rt r e =>
      refine wp_bind.mpr (Wp.imp h fun bs h => ?_)
      cases r with
      | fz d => exact wp_some.mpr h
      | own d => exact wp_some.mpr h
      | plc i => exact h.elim
    | bk e => exact h.elim
    | ct e => exact h.elim
theorem kRun_rt : kRun as Pc (.rt r e) ↔ Wp (exitAll as e) (kRunR Pc r) := Iff.rfl
theorem kRun_nx : kRun as Pc (.nx e) ↔ Wp (exitAll as e) (kRunR Pc (.fz .none)) := Iff.rfl
theorem kRunR_fz : kRunR Pc (.fz d) bs ↔ Pc bs (.fz d) := Iff.rfl
theorem kRunR_own : kRunR Pc (.own d) bs ↔ Pc bs (.own d) := Iff.rfl
def kEx (x : SV) (Q : List SV → Prop) (zs : List SV) : Prop := Q (x :: zs)
theorem wex_nil {Q : List SV → Prop} : Wp (exitAll [] e) Q ↔ Q [] := by cases e <;> exact wp_some
theorem wex_fz {Q : List SV → Prop} : Wp (exitAll (.fz d :: as) (y :: e)) Q ↔ Wp (exitAll as e) (kEx (.fz d) Q) := by
  simp only [exitAll, SV.exit, wp_bind, wp_some]
  exact Iff.rfl
theorem wex_ref {Q : List SV → Prop} : Wp (exitAll (.own d :: as) (.ref d' :: e)) Q ↔ Wp (exitAll as e) (kEx (.own d') Q) := by
  simp only [exitAll, SV.exit, wp_bind, wp_some]
  exact Iff.rfl
theorem wex_rfz {Q : List SV → Prop} : Wp (exitAll (.own d :: as) (.rfz d' :: e)) Q ↔ Wp (exitAll as e) (kEx (.fz d') Q) := by
  simp only [exitAll, SV.exit, wp_bind, wp_some]
  exact Iff.rfl
theorem kEx_eq {Q : List SV → Prop} {zs : List SV} : kEx x Q zs ↔ Q (x :: zs) := Iff.rfl
end

/-! ### what is written back, slots -/
section
variable {rs : List RV} {bs : List SV} {x y : SV} {xs ys : List SV} {d d' : PyData} {i k : Nat}
theorem fzI_eq (i : Int) : fzI i = some (.fz (.int i)) := rfl
theorem fzB_eq (b : Bool) : fzB b = some (.fz (.bool b)) := rfl
theorem fzS_eq (x : Str) : fzS x = some (.fz (.str x)) := rfl
theorem backSVs_nil : backSVs rs bs k [] = [] := rfl
theorem backSVs_cons : backSVs rs bs k (x :: xs) = backAt rs bs k x :: backSVs rs bs (k + 1) xs := rfl
theorem lock_unb : SV.lock .unb = false := rfl
theorem lock_fz : SV.lock (.fz d) = false := rfl
theorem lock_own : SV.lock (.own d) = false := rfl
theorem plain_fz : SV.plain (.fz d) = true := rfl
theorem plain_own : SV.plain (.own d) = true := rfl
theorem enter_fz : SV.enter (.fz d) = .fz d := rfl
theorem enter_own : SV.enter (.own d) = .ref d := rfl
theorem put_ownE : SV.put d' (.own d) = .own d' := rfl
theorem put_refE : SV.put d' (.ref d) = .ref d' := rfl
theorem back_oo : SV.back (.own d) (.own d') = .own d' := rfl
theorem back_of : SV.back (.own d) (.fz d') = .fz d' := rfl
theorem back_ro : SV.back (.ref d) (.own d') = .ref d' := rfl
theorem back_rf : SV.back (.ref d) (.fz d') = .rfz d' := rfl
theorem back_fz : SV.back (.fz d) y = .fz d := by cases y <;> rfl
theorem back_rfz : SV.back (.rfz d) y = .rfz d := by cases y <;> rfl
theorem freeze_own : SV.freeze (.own d) = .fz d := rfl
theorem freeze_ref : SV.freeze (.ref d) = .rfz d := rfl
theorem freeze_fz : SV.freeze (.fz d) = .fz d := rfl
theorem backAt_eq : backAt rs bs k x = match findSV rs bs k with | some y => x.back y | none => x := rfl
theorem findSV_nil : findSV [] bs k = none := by cases bs <;> rfl
theorem findSV_nil2 {r : RV} : findSV (r :: rs) [] k = none := by cases r <;> rfl
theorem findSV_plc : findSV (.plc i :: rs) (y :: ys) k = if i = k then some y else findSV rs ys k := rfl
theorem findSV_fz : findSV (.fz d :: rs) (y :: ys) k = findSV rs ys k := rfl
theorem findSV_own : findSV (.own d :: rs) (y :: ys) k = findSV rs ys k := rfl
theorem apart_nil : apart [] = true := rfl
theorem apart_fz : apart (.fz d :: rs) = apart rs := rfl
theorem apart_own : apart (.own d :: rs) = apart rs := rfl
theorem apart_plc : apart (.plc i :: rs) = (!placed i rs && apart rs) := rfl
theorem placed_nil : placed k [] = false := rfl
theorem placed_fz : placed k (.fz d :: rs) = placed k rs := rfl
theorem placed_own : placed k (.own d :: rs) = placed k rs := rfl
theorem placed_plc : placed k (.plc i :: rs) = (decide (i = k) || placed k rs) := rfl
theorem wipeE_nil : wipeE xs [] = xs := rfl
theorem wipeE_cons {is : List Nat} : wipeE xs (i :: is) = (wipeE xs is).set i .unb := rfl
theorem backE_nil : backE ys xs [] = xs := rfl
theorem backE_cons {is : List Nat} : backE ys xs (i :: is) = (backE ys xs is).set i (ys.getD i .unb) := rfl
theorem unlocked_nil : unlocked xs [] = true := rfl
theorem unlocked_cons {is : List Nat} : unlocked xs (i :: is) = ((match xs[i]? with | some x => !x.lock | none => false) && unlocked xs is) := rfl
end
end L3

/-! L3Q: what operators say of data, row by row. -/
namespace L3
open PySem PySem.Spec PyProof.Rows L2
section
variable {i j : Int} {x y : Str} {b c : Bool} {d : PyData} {ds es : List PyData} {P : RV → Prop} {lo hi : Option Int}
theorem shaped_i : SeqAt.shaped (.int i) = true := rfl
theorem shaped_b : SeqAt.shaped (.bool b) = true := rfl
theorem shaped_n : SeqAt.shaped .none = true := rfl
theorem addD_i : addD (.int i) (.int j) = some (.fz (.int (i + j))) := rfl
theorem addD_s : addD (.str x) (.str y) = if x.length + y.length ≤ lineN then some (.fz (.str (x ++ y))) else none := rfl
theorem addD_l : addD (.list ds) (.list es) = if ds.length + es.length ≤ lineN then some (.own (.list (ds ++ es))) else none := rfl
theorem addD_t : addD (.tuple ds) (.tuple es) = if ds.length + es.length ≤ lineN then some (.fz (.tuple (ds ++ es))) else none := rfl
theorem subD_i : subD (.int i) (.int j) = some (.fz (.int (i - j))) := rfl
theorem mulSD_i : mulSD (.int i) (.int j) = if small64 i = true ∨ small64 j = true then some (.fz (.int (i * j))) else none := rfl
theorem mulSD_s : mulSD (.str x) (.int j) = if j = 1 then some (.fz (.str x)) else if 2 ≤ j ∧ j ≤ 1000 ∧ 1 ≤ x.length ∧ x.length ≤ 1000 then some (.fz (.str (repS x j.toNat))) else none := rfl
theorem divD_i : divD (.int i) (.int j) = if 0 < j ∧ j < 18446744073709551616 then some (.fz (.int (i / j))) else none := rfl
theorem modD_i : modD (.int i) (.int j) = if 0 < j then some (.fz (.int (i % j))) else none := rfl
theorem powD_i : powD (.int i) (.int j) = if 0 ≤ j ∧ j ≤ 1000000 ∧ i.natAbs < 2 ^ 64 then some (.fz (.int (i ^ j.toNat))) else none := rfl
theorem negD_i : negD (.int i) = some (.fz (.int (-i))) := rfl
theorem ltD_i : ltD (.int i) (.int j) = some (.fz (.bool (decide (i < j)))) := rfl
theorem leD_i : leD (.int i) (.int j) = some (.fz (.bool (decide (i ≤ j)))) := rfl
theorem gtD_i : gtD (.int i) (.int j) = some (.fz (.bool (decide (j < i)))) := rfl
theorem geD_i : geD (.int i) (.int j) = some (.fz (.bool (decide (j ≤ i)))) := rfl
theorem cmpI_i {p : Int → Int → Bool} : cmpI p (.int i) (.int j) = some (.fz (.bool (p i j))) := rfl
theorem eqD_i : eqD (.int i) (.int j) = some (.fz (.bool (decide (i = j)))) := by
  show (if SeqAt.shaped (.int i) = true ∧ SeqAt.shaped (.int j) = true then fzB (i == j) else none) = _
  rw [if_pos ⟨rfl, rfl⟩]
  rfl
theorem neD_i : neD (.int i) (.int j) = some (.fz (.bool (!decide (i = j)))) := by
  show (if SeqAt.shaped (.int i) = true ∧ SeqAt.shaped (.int j) = true then fzB (!(i == j)) else none) = _
  rw [if_pos ⟨rfl, rfl⟩]
  rfl
theorem eqD_s : eqD (.str x) (.str y) = some (.fz (.bool (decide (x = y)))) := rfl
theorem neD_s : neD (.str x) (.str y) = some (.fz (.bool (!decide (x = y)))) := rfl
theorem eqD_sh {d e : PyData} (h : SeqAt.shaped d = true) (h' : SeqAt.shaped e = true) : eqD d e = some (.fz (.bool (PyData.eqv d e))) := by
  unfold eqD
  split
  · refine congrArg (fun b => some (RV.fz (.bool b))) ?_
    rw [PyData.eqv, Bool.eq_iff_iff]
    simp
  · rw [if_pos ⟨h, h'⟩]
    rfl
theorem neD_sh {d e : PyData} (h : SeqAt.shaped d = true) (h' : SeqAt.shaped e = true) : neD d e = some (.fz (.bool (!PyData.eqv d e))) := by
  unfold neD
  split
  · refine congrArg (fun b => some (RV.fz (.bool (!b)))) ?_
    rw [PyData.eqv, Bool.eq_iff_iff]
    simp
  · rw [if_pos ⟨h, h'⟩]
    rfl
theorem inD_l {d : PyData} (h : SeqAt.shaped d = true) (h' : SeqAt.shaped (.list ds) = true) : inD d (.list ds) = some (.fz (.bool (ds.any fun z => PyData.eqv z d))) := by
  cases d <;> exact if_pos (And.intro h h')
theorem inD_t {d : PyData} (h : SeqAt.shaped d = true) (h' : SeqAt.shaped (.tuple ds) = true) : inD d (.tuple ds) = some (.fz (.bool (ds.any fun z => PyData.eqv z d))) := by
  cases d <;> exact if_pos (And.intro h h')
theorem notInD_l {d : PyData} (h : SeqAt.shaped d = true) (h' : SeqAt.shaped (.list ds) = true) : notInD d (.list ds) = some (.fz (.bool (!ds.any fun z => PyData.eqv z d))) := by
  cases d <;> exact if_pos (And.intro h h')
theorem notInD_t {d : PyData} (h : SeqAt.shaped d = true) (h' : SeqAt.shaped (.tuple ds) = true) : notInD d (.tuple ds) = some (.fz (.bool (!ds.any fun z => PyData.eqv z d))) := by
  cases d <;> exact if_pos (And.intro h h')
theorem eqD_b : eqD (.bool b) (.bool c) = some (.fz (.bool (b == c))) := by
  rw [eqD_sh rfl rfl]
  rfl
theorem neD_b : neD (.bool b) (.bool c) = some (.fz (.bool (!(b == c)))) := by
  rw [neD_sh rfl rfl]
  rfl
theorem isD_n {d : PyData} : isD d .none = some (.fz (.bool (isNone d))) := by cases d <;> rfl
theorem isD_b {d : PyData} : isD d (.bool c) = some (.fz (.bool (isBool c d))) := by cases d <;> rfl
theorem isNotD_n {d : PyData} : isNotD d .none = some (.fz (.bool (!isNone d))) := by cases d <;> rfl
theorem isNotD_b {d : PyData} : isNotD d (.bool c) = some (.fz (.bool (!isBool c d))) := by cases d <;> rfl
theorem isBool_b : isBool c (.bool b) = (b == c) := rfl
theorem isNone_n : isNone .none = true := rfl
theorem isNone_b : isNone (.bool b) = false := rfl
theorem isNone_i : isNone (.int i) = false := rfl
theorem isNone_s : isNone (.str x) = false := rfl
theorem isNone_l : isNone (.list ds) = false := rfl
theorem isNone_t : isNone (.tuple ds) = false := rfl
theorem isNone_d {kvs : List (PyData × PyData)} : isNone (.dict kvs) = false := rfl
theorem isi_eq {t : Ty} : isi t d = some (.fz (.bool (isiB t d))) := rfl
theorem isiAny_eq {ts : List Ty} : isiAny ts d = some (.fz (.bool (ts.any fun t => isiB t d))) := rfl
theorem ixD_l : ixD (.list ds) (.int i) = (atI ds i).bind fun d => some (.fz d) := rfl
theorem ixD_t : ixD (.tuple ds) (.int i) = (atI ds i).bind fun d => some (.fz d) := rfl
theorem ixD_s : ixD (.str x) (.int i) = if x.length ≤ lineN then (atI x.cps.toList i).bind fun c => some (.fz (.str ⟨#[c]⟩)) else none := rfl
theorem slD_l : slD (.list ds) lo hi = some (.own (.list (cutD ds lo hi))) := rfl
theorem slD_t : slD (.tuple ds) lo hi = some (.fz (.tuple (cutD ds lo hi))) := rfl
theorem slD_s : slD (.str x) lo hi = if x.length ≤ lineN then some (.fz (.str (cutS x lo hi))) else none := rfl
theorem lenD_s : lenD [.str x] = if x.length ≤ lineN then some (.fz (.int x.length)) else none := rfl
theorem lenD_l : lenD [.list ds] = some (.fz (.int ds.length)) := rfl
theorem lenD_t : lenD [.tuple ds] = some (.fz (.int ds.length)) := rfl
theorem absD_i : absD [.int i] = some (.fz (.int (if i < 0 then -i else i))) := rfl
theorem absD_n : absD [.int i] = some (.fz (.int i.natAbs)) := by
  rw [show ((i.natAbs : Nat) : Int) = if i < 0 then -i else i by split <;> omega]
  rfl
theorem maxD_m : maxD [.int i, .int j] = some (.fz (.int (max i j))) := by
  rw [show max i j = if j > i then j else i by split <;> omega]
  rfl
theorem minD_m : minD [.int i, .int j] = some (.fz (.int (min i j))) := by
  rw [show min i j = if j < i then j else i by split <;> omega]
  rfl
theorem maxD_i : maxD [.int i, .int j] = some (.fz (.int (if j > i then j else i))) := rfl
theorem minD_i : minD [.int i, .int j] = some (.fz (.int (if j < i then j else i))) := rfl
theorem intD_i : intD [.int i] = some (.fz (.int i)) := rfl
theorem intD_b : intD [.bool b] = some (.fz (.int (if b then 1 else 0))) := rfl
theorem strD_i : strD [.int i] = if i.natAbs.log2 < 1920 then some (.fz (.str (toString i))) else none := rfl
theorem listD_l : listD [.list ds] = some (.own (.list ds)) := rfl
theorem listD_t : listD [.tuple ds] = some (.own (.list ds)) := rfl
theorem listD_s : listD [.str x] = if x.length ≤ lineN then some (.own (.list (x.cps.toList.map fun c => .str ⟨#[c]⟩))) else none := rfl
theorem tupleD_l : tupleD [.list ds] = some (.fz (.tuple ds)) := rfl
theorem tupleD_t : tupleD [.tuple ds] = some (.fz (.tuple ds)) := rfl
theorem tupleD_s : tupleD [.str x] = if x.length ≤ lineN then some (.fz (.tuple (x.cps.toList.map fun c => .str ⟨#[c]⟩))) else none := rfl
theorem allD_l : allD [.list ds] = (boolsOf ds).bind fun bs => some (.fz (.bool (bs.all id))) := rfl
theorem anyD_l : anyD [.list ds] = (boolsOf ds).bind fun bs => some (.fz (.bool (bs.any id))) := rfl
theorem boolsOf_map : ∀ bs : List Bool, boolsOf (bs.map PyData.bool) = some bs
  | [] => rfl
  | b :: bs => by
    rw [List.map_cons, boolsOf, boolsOf_map bs]
    rfl
theorem strsOf_map : ∀ bs : List Str, strsOf (bs.map PyData.str) = some bs
  | [] => rfl
  | b :: bs => by
    rw [List.map_cons, strsOf, strsOf_map bs]
    rfl
theorem joinD_l : joinD x (.list ds) = (strsOf ds).bind fun ys => if (ys.map (·.length)).sum + ys.length * x.length ≤ lineN then some (.fz (.str (Txt.join x ys))) else none := rfl
theorem joinD_t : joinD x (.tuple ds) = (strsOf ds).bind fun ys => if (ys.map (·.length)).sum + ys.length * x.length ≤ lineN then some (.fz (.str (Txt.join x ys))) else none := rfl
theorem upperD_eq : upperD x = if x.length ≤ 5592405 then some (.fz (.str (Txt.upper x))) else none := rfl
/-- at a place -/
theorem ixN_nat {n k : Nat} (h : k < n) : ixN n (k : Int) = some k := by
  unfold ixN
  rw [if_pos (by omega), if_pos (by omega)]
  simp
theorem ixN_int {n : Nat} {i : Int} (h0 : 0 ≤ i) (h : i < n) : ixN n i = some i.toNat := by
  unfold ixN
  rw [if_pos h0, if_pos h]
theorem ixN_neg {n : Nat} {i : Int} (h0 : i < 0) (h : -(n : Int) ≤ i) : ixN n i = some (i + n).toNat := by
  unfold ixN
  rw [if_neg (by omega), if_pos h]
theorem atI_nat {α : Type} {xs : List α} {k : Nat} {a : α} (h : xs[k]? = some a) : atI xs (k : Int) = some a := by
  unfold atI
  rw [ixN_nat (List.getElem?_eq_some_iff.mp h).1]
  exact h
theorem atI_int {α : Type} {xs : List α} {i : Int} (h0 : 0 ≤ i) (h : i < xs.length) : ∃ a, xs[i.toNat]? = some a ∧ atI xs i = some a := by
  have h1 : i.toNat < xs.length := by omega
  refine ⟨xs[i.toNat], List.getElem?_eq_getElem h1, ?_⟩
  unfold atI
  rw [ixN_int h0 h]
  exact List.getElem?_eq_getElem h1
theorem wp_at {α : Type} {xs : List α} {i : Int} {Q : α → Prop} (h0 : 0 ≤ i) (h : i < xs.length) (k : ∀ a, xs[i.toNat]? = some a → Q a) : Wp (atI xs i) Q := by
  obtain ⟨a, e1, e2⟩ := atI_int h0 h
  exact ⟨a, e2, k a e1⟩
theorem atI_0 {α : Type} {x : α} {xs : List α} : atI (x :: xs) 0 = some x := atI_nat (k := 0) rfl
theorem atI_1 {α : Type} {x x1 : α} {xs : List α} : atI (x :: x1 :: xs) 1 = some x1 := atI_nat (k := 1) rfl
theorem atI_2 {α : Type} {x x1 x2 : α} {xs : List α} : atI (x :: x1 :: x2 :: xs) 2 = some x2 := atI_nat (k := 2) rfl
theorem atI_3 {α : Type} {x x1 x2 x3 : α} {xs : List α} : atI (x :: x1 :: x2 :: x3 :: xs) 3 = some x3 := atI_nat (k := 3) rfl
theorem atI_4 {α : Type} {x x1 x2 x3 x4 : α} {xs : List α} : atI (x :: x1 :: x2 :: x3 :: x4 :: xs) 4 = some x4 := atI_nat (k := 4) rfl
theorem ixN_0 {n : Nat} : ixN (n + 1) 0 = some 0 := ixN_nat (k := 0) (by omega)
theorem ixN_1 {n : Nat} : ixN (n + 1 + 1) 1 = some 1 := ixN_nat (k := 1) (by omega)
theorem ixN_2 {n : Nat} : ixN (n + 1 + 1 + 1) 2 = some 2 := ixN_nat (k := 2) (by omega)
end
theorem kDictb_s {P : MEnv → RV → Prop} {e : MEnv} {x : Str} {b : PyData} : kDictb P e [.str x, b] ↔ P e (.own (.dict [(.str x, b)])) :=
  ⟨fun ⟨kv, h, _, q⟩ => by cases h; exact q, fun h => kDictb_1 (k := .inr x) rfl h⟩
theorem kDictb_int {P : MEnv → RV → Prop} {e : MEnv} {x : Int} {b : PyData} : kDictb P e [.int x, b] ↔ P e (.own (.dict [(.int x, b)])) :=
  ⟨fun ⟨kv, h, _, q⟩ => by cases h; exact q, fun h => kDictb_1 (k := .inl x) rfl h⟩
theorem allD_m (bs : List Bool) : allD [.list (bs.map PyData.bool)] = some (.fz (.bool (bs.all id))) := by
  rw [allD_l, boolsOf_map]
  rfl
theorem anyD_m (bs : List Bool) : anyD [.list (bs.map PyData.bool)] = some (.fz (.bool (bs.any id))) := by
  rw [anyD_l, boolsOf_map]
  rfl
/-- a comprehension over what a list of other things stands for -/
theorem wlc_mapG {β : Type} {xs : List β} {g0 : β → PyData} (f : β → PyData) {g : MG} {t : MT} {m : ME} {vs : List Nat} {e : MEnv} {Q : MEnv × List PyData → Prop} (hl : xs.length ≤ lineN)
    (hs : ∀ x, x ∈ xs → ∀ acc, WG g (g0 x) e (kLcT vs t m (fun e1 a1 => e1 = e ∧ a1 = acc ++ [f x]) acc)) (hn : Q (e, xs.map f)) : Wp (lcLoop g t m vs (xs.map g0) e []) Q := by
  refine wlc (fun i e1 acc => e1 = e ∧ acc = (xs.take i).map f) (by rw [List.length_map]; exact hl) ⟨rfl, by simp⟩ (fun i d hd e1 acc hj _ => ?_) fun e1 acc hj _ => ?_
  · obtain ⟨rfl, ha⟩ := hj
    rw [List.getElem?_map] at hd
    obtain ⟨x, hx, rfl⟩ := Option.map_eq_some_iff.mp hd
    have h1 := hs x (List.mem_of_getElem? hx) acc
    have e2 : (xs.take (i + 1)).map f = acc ++ [f x] := by
      rw [List.take_add_one, hx, List.map_append, ← ha]
      rfl
    rw [e2]
    exact h1
  · obtain ⟨rfl, ha⟩ := hj
    rw [List.length_map, List.take_length] at ha
    subst ha
    exact hn
/-! ### joins -/
def kJ (R : MEnv → Prop) (P : Out → Prop) : Out → Prop
  | .nx e => R e
  | o => P o
def kIs (e0 : MEnv) (b0 : Bool) (e : MEnv) (b : Bool) : Prop := e = e0 ∧ b = b0
section
variable {R : MEnv → Prop} {P : Out → Prop} {Pt : MEnv → Bool → Prop} {Pe : MEnv → RV → Prop} {a c : MS} {e : MEnv} {r r2 : RV} {b : Bool} {t : MT} {mc : ME} {g : PyData → PyData → Option RV}
theorem kJ_nx : kJ R P (.nx e) ↔ R e := Iff.rfl
theorem kJ_rt : kJ R P (.rt r e) ↔ P (.rt r e) := Iff.rfl
theorem kJ_bk : kJ R P (.bk e) ↔ P (.bk e) := Iff.rfl
theorem kJ_ct : kJ R P (.ct e) ↔ P (.ct e) := Iff.rfl
theorem kJ_imp (k : ∀ e, R e → P (.nx e)) : ∀ o, kJ R P o → P o := fun o h => by cases o <;> first | exact k _ h | exact h
theorem ws_j (R : MEnv → Prop) (h : WS a e (kJ R P)) (k : ∀ e, R e → P (.nx e)) : WS a e P := WS.imp h (kJ_imp k)
theorem kIf_j (R : MEnv → Prop) (h : b = true → WS a e (kJ R P)) (h' : b = false → WS c e (kJ R P)) (k : ∀ e, R e → P (.nx e)) : kIf a c P e b :=
  kIf_i (fun q => ws_j R (h q) k) fun q => ws_j R (h' q) k
theorem kIs_eq {e0 : MEnv} {b0 : Bool} : kIs e0 b0 e b ↔ e = e0 ∧ b = b0 := Iff.rfl
theorem kAnd_j (b2 : Bool) (h : b = true → WT t e (kIs e b2)) (k : Pt e (b && b2)) : kAnd t Pt e b := by
  cases b with
  | true =>
    refine kAnd_t.mpr (WT.imp (h rfl) fun e' b' ⟨h1, h2⟩ => ?_)
    subst h1 h2
    simpa using k
  | false => exact kAnd_f.mpr (by simpa using k)
theorem kOr_j (b2 : Bool) (h : b = false → WT t e (kIs e b2)) (k : Pt e (b || b2)) : kOr t Pt e b := by
  cases b with
  | false =>
    refine kOr_f.mpr (WT.imp (h rfl) fun e' b' ⟨h1, h2⟩ => ?_)
    subst h1 h2
    simpa using k
  | true => exact kOr_t.mpr (by simpa using k)
def kIsE (e0 : MEnv) (r0 : RV) (e : MEnv) (r : RV) : Prop := e = e0 ∧ r = r0
theorem kIsE_eq {e0 : MEnv} {r0 : RV} : kIsE e0 r0 e r ↔ e = e0 ∧ r = r0 := Iff.rfl
theorem kCh5_j (b2 : Bool) (h : b = true → WE mc e (kOp2b g r2 (kIsE e (.fz (.bool b2))))) (k : Pe e (.fz (.bool (b && b2)))) : kCh5 g r2 mc Pe e (.fz (.bool b)) := by
  cases b with
  | true =>
    refine kCh5_t.mpr (WE.imp (h rfl) fun e' r' h => Wp.imp h fun d h => Wp.imp h fun d2 h => Wp.imp h fun r0 ⟨h1, h2⟩ => ?_)
    subst h1 h2
    simpa using k
  | false => exact kCh5_f.mpr (by simpa using k)
/-- both ways at once, where they end alike -/
theorem kIf_b (h : WS (if b = true then a else c) e P) : kIf a c P e b := by
  unfold kIf
  cases b <;> simpa using h
end
theorem small64_eq (i : Int) : L3.small64 i = decide (-18446744073709551616 < i ∧ i < 18446744073709551616) := rfl
theorem small_of {i : Int} (h : -18446744073709551616 < i) (h' : i < 18446744073709551616) : L3.small64 i = true := by
  unfold L3.small64
  exact decide_eq_true ⟨h, h'⟩
theorem rangeD_1 : rangeD 0 1 = [.int 0] := rfl
theorem rangeD_2 : rangeD 0 2 = [.int 0, .int 1] := rfl
theorem rangeD_3 : rangeD 0 3 = [.int 0, .int 1, .int 2] := rfl
theorem range_mem {lo hi : Int} {d : PyData} (h : d ∈ rangeD lo hi) : ∃ k : Int, d = .int k ∧ lo ≤ k ∧ k < hi := by
  unfold rangeD at h
  obtain ⟨k, hk, e⟩ := List.mem_map.mp h
  rw [List.mem_range] at hk
  exact ⟨lo + k, e.symm, by omega, by omega⟩
theorem range_len {lo hi : Int} : (rangeD lo hi).length = (hi - lo).toNat := by simp [rangeD]
theorem range_at {lo hi : Int} {i : Nat} {d : PyData} (h : (rangeD lo hi)[i]? = some d) : d = .int (lo + i) ∧ lo + i < hi := by
  unfold rangeD at h
  rw [List.getElem?_map] at h
  obtain ⟨k, hk, e⟩ := Option.map_eq_some_iff.mp h
  obtain ⟨h1, h2⟩ := List.getElem?_eq_some_iff.mp hk
  rw [List.getElem_range] at h2
  rw [List.length_range] at h1
  subst h2
  exact ⟨e.symm, by omega⟩
/-- a text of signs -/
def mkS (l : List Nat) : Str := ⟨l.toArray⟩
theorem mkS_len (l : List Nat) : (mkS l).length = l.length := by show l.toArray.size = _; simp
theorem mkS_cps (l : List Nat) : (mkS l).cps.toList = l := by simp [mkS]
theorem mkS_app (l m : List Nat) : mkS l ++ mkS m = mkS (l ++ m) := by
  show (⟨l.toArray ++ m.toArray⟩ : Str) = ⟨(l ++ m).toArray⟩
  simp
theorem mkS_eta (x : Str) : mkS x.cps.toList = x := by cases x; simp [mkS]
theorem mkS_inj {l m : List Nat} (h : mkS l = mkS m) : l = m := by rw [← mkS_cps l, h, mkS_cps]
end L3

/-! L3T: texts by their signs. -/
namespace L3
open PySem PySem.Spec PyProof.Rows L2
/-- xs[lo:hi] -/
def cutG {α : Type} (a : List α) (lo hi : Option Int) : List α := (a.drop (HT.sIx a.length 0 lo)).take (HT.sIx a.length a.length hi - HT.sIx a.length 0 lo)
theorem cutD_G (a : List PyData) (lo hi : Option Int) : cutD a lo hi = cutG a lo hi := rfl
theorem cutS_S (a : List Nat) (lo hi : Option Int) : cutS (SX.S a) lo hi = SX.S (cutG a lo hi) := by
  unfold cutS cutG
  rw [SX.S_len]
section
variable {α : Type} {a : List α} {i j : Int}
theorem sIx_int {n d : Nat} (h : 0 ≤ i) : HT.sIx n d (some i) = min i.toNat n := by
  show (if i < 0 then (i + (n : Int)).toNat else min i.toNat n) = _
  rw [if_neg (by omega)]
theorem cutG_none : cutG a none none = a := by
  unfold cutG
  rw [HT.sIx_none, HT.sIx_none]
  simp
theorem cutG_to (h : 0 ≤ i) : cutG a none (some i) = a.take i.toNat := by
  unfold cutG
  rw [HT.sIx_none, sIx_int h, List.drop_zero, Nat.sub_zero]
  exact (List.take_eq_take_iff).mpr (by omega)
theorem cutG_from (h : 0 ≤ i) : cutG a (some i) none = a.drop i.toNat := by
  unfold cutG
  rw [HT.sIx_none, sIx_int h, List.take_of_length_le (by rw [List.length_drop]; exact Nat.le_refl _)]
  by_cases hl : i.toNat ≤ a.length
  · rw [Nat.min_eq_left hl]
  · rw [Nat.min_eq_right (by omega), List.drop_eq_nil_of_le (by omega), List.drop_eq_nil_of_le (by omega)]
theorem cutG_mid (h : 0 ≤ i) (h' : 0 ≤ j) : cutG a (some i) (some j) = (a.drop i.toNat).take (j - i).toNat := by
  unfold cutG
  rw [sIx_int h, sIx_int h']
  by_cases hl : i.toNat ≤ a.length
  · rw [Nat.min_eq_left hl]
    refine (List.take_eq_take_iff).mpr ?_
    rw [List.length_drop]
    omega
  · rw [Nat.min_eq_right (a := i.toNat) (b := a.length) (by omega), List.drop_eq_nil_of_le (Nat.le_refl _), List.drop_eq_nil_of_le (by omega)]
    simp
theorem cutG_but : cutG a none (some (-1)) = a.take (a.length - 1) := by
  unfold cutG
  rw [HT.sIx_none, List.drop_zero, Nat.sub_zero]
  have e : HT.sIx a.length a.length (some (-1)) = a.length - 1 := by
    show (if (-1 : Int) < 0 then ((-1 : Int) + (a.length : Int)).toNat else min (-1 : Int).toNat a.length) = _
    rw [if_pos (by decide)]
    omega
  rw [e]
end
theorem S_cps (a : List Nat) : (SX.S a).cps.toList = a := by simp [SX.S]
theorem S_len' (a : List Nat) : Str.length ⟨a.toArray⟩ = a.length := SX.S_len a
theorem S_mk (c : Nat) : (⟨#[c]⟩ : Str) = SX.S [c] := rfl
theorem repS_S (a : List Nat) (n : Nat) : repS (SX.S a) n = SX.S (List.replicate n a).flatten := by
  have h : ∀ (n : Nat) (b : List Nat), ((List.replicate n a.toArray).foldl (· ++ ·) b.toArray) = (b ++ (List.replicate n a).flatten).toArray := by
    intro n
    induction n with
    | zero => intro b; simp
    | succ n ih =>
      intro b
      rw [List.replicate_succ, List.foldl_cons]
      have e : b.toArray ++ a.toArray = (b ++ a).toArray := by simp
      rw [e, ih (b ++ a), List.replicate_succ, List.flatten_cons, List.append_assoc]
  have := h n []
  rw [List.nil_append] at this
  unfold repS
  show (⟨(List.replicate n a.toArray).foldl (· ++ ·) #[]⟩ : Str) = ⟨_⟩
  rw [← this]
theorem inD_S {c : Nat} {l : List Nat} : inD (.str (SX.S [c])) (.str (SX.S l)) = some (.fz (.bool (decide (c ∈ l)))) := by
  show (match (SX.S [c]).cps.toList with
    | [c] => fzB (decide (c ∈ (SX.S l).cps.toList))
    | _ => none) = _
  rw [S_cps, S_cps]
  rfl
theorem notInD_S {c : Nat} {l : List Nat} : notInD (.str (SX.S [c])) (.str (SX.S l)) = some (.fz (.bool (!decide (c ∈ l)))) := by
  show (match (SX.S [c]).cps.toList with
    | [c] => some (RV.fz (.bool (!decide (c ∈ (SX.S l).cps.toList))))
    | _ => none) = _
  rw [S_cps, S_cps]
theorem signD_S (l : List Nat) : signD (SX.S l) = l.map fun c => PyData.str (SX.S [c]) := by
  unfold signD
  rw [S_cps]
theorem ixD_S {l : List Nat} {i : Int} : ixD (.str (SX.S l)) (.int i) = if l.length ≤ lineN then (atI l i).bind fun c => some (.fz (.str (SX.S [c]))) else none := by
  show (if (SX.S l).length ≤ lineN then (atI (SX.S l).cps.toList i).bind fun c => fzS ⟨#[c]⟩ else none) = _
  rw [S_cps, SX.S_len]
  rfl
theorem num_len {m : Int} (h0 : 0 ≤ m) {k : Nat} (hk : 0 < k) (h : m < 10 ^ k) : (Str.ofString (toString m)).length ≤ k := by
  have h1 := digits_le h0 hk h
  rw [asciiBytes, List.length_map] at h1
  rw [Str.ofString_eq_toList]
  show ((toString m).toList.map Char.toNat).toArray.size ≤ k
  rw [List.size_toArray, List.length_map]
  exact h1
theorem log_lt {m : Int} (h0 : 0 ≤ m) (h : m < 10 ^ 100) : m.natAbs.log2 < 1920 := by
  have h1 : m.natAbs < 2 ^ 1920 := by
    have h2 : m.natAbs < 10 ^ 100 := by omega
    exact Nat.lt_of_lt_of_le h2 (by decide +kernel)
  by_cases hz : m.natAbs = 0
  · rw [hz]; decide
  · exact (Nat.log2_lt hz).mpr h1
theorem joinL_nil : ∀ cs : List Nat, TL.joinL [] (cs.map fun c => [c]) = cs
  | [] => rfl
  | [_] => rfl
  | c :: d :: r => by
    show [c] ++ ([] ++ TL.joinL [] ((d :: r).map fun c => [c])) = _
    rw [joinL_nil (d :: r)]
    rfl
theorem join_signs (cs : List Nat) : Txt.join (SX.S []) (cs.map fun c => SX.S [c]) = SX.S cs := by
  have h := SX.join_S [] (cs.map fun c => [c])
  rw [List.map_map] at h
  rw [joinL_nil] at h
  exact h
theorem lens_signs (cs : List Nat) : ((cs.map fun c => SX.S [c]).map (·.length)).sum = cs.length := by
  induction cs with
  | nil => rfl
  | cons c cs ih =>
    rw [List.map_cons, List.map_cons, List.sum_cons, ih, SX.S_len, List.length_cons]
    simp [Nat.add_comm]
end L3

/-! L3M: the law's own call, under no guard. -/
namespace L3
open PySem PySem.Spec PyProof.Rows L2
section
variable {P : Program} {w : World} {K : PySem.W.Frag} {mg mb : Str → Option Value} {CX : CXT} {k : Nat} {fa a : Addr} {fd : FuncData} {x : Str} {sp : Sp} {s1 : Shared} {vs : List Value} {ns : List Int}
/-- the script as the only thing that is tracked, frozen -/
def onlyAt (a : Addr) (vs : List Value) (ns : List Int) : Hp := fun b => if b = a then some (.frz { cls := .type "list", data := .seq vs.toArray } (.lst (ns.map V.int))) else none
/-- from an abstract heap that tracks the script or nothing -/
theorem callG_at (KX : K.In s1.heap) (g1 : s1.heap.Ns mainGlobals mg) (g2 : s1.heap.Ns builtinsNs mb) (g3 : ∀ x : Str, x ≠ "__name__" → mb x = bootBuiltins x) (g4 : s1.heap.NoLimit) (g5 : s1.gens = #[])
    (ha : s1.heap.get? a = some { cls := .type "list", data := .seq vs.toArray }) (hr : RoomG k callerA)
    (F : ∀ base : Heap, K.In base → base.Ns mainGlobals mg → FnOkG P w K mg base CX k fa fd [x] sp) (hbind : ∀ (s : Shared) (u : Value), BindsTo s fd ⟨[u], []⟩ [(x, u)])
    (hsp : ∀ H : Hp, Only H → SqL K H a (ns.map V.int) → sp [.ref a] H (fun v _ => v = .bl true) fun _ _ _ => False) (hCX : ∀ H e s', CX [] H s1 (fun _ _ _ => False) e s' → False)
    {H : Hp} (hO : Only H) (hS : SqL K H a (ns.map V.int)) (hok : HOk P w H s1.heap) (one : ∀ b, b ≠ a → H b = none) (cst : H a ≠ none → K.lookup a = none) :
    codeAny (model P w) callerA (.call (.ref fa) ⟨[.ref a], []⟩) (fun r s' => r = .ok (.ret (.bool true)) ∧ OldK s1.heap s'.heap ∧ s'.os = s1.os ∧ AllBare s'.gens) s1 := by
  have far : ∀ b, H b ≠ none → b = a := fun b n => Classical.byContradiction fun z => n (one b z)
  have dicts : ∀ {b : Addr} {m : Str → Option Value}, s1.heap.Ns b m → (hidT s1.heap H).Ns b m := by
    rintro b m ⟨o, es, ep, e, d, r⟩
    refine ⟨o, es, ep, hidT_get e ?_, d, r⟩
    by_cases z : H b = none
    · exact z
    · have eb := far b z
      rw [eb, ha] at e
      cases e
      exact nomatch d
  have kin : K.In (hidT s1.heap H) := fun b o e => hidT_get (KX b o e) (by
    by_cases z : H b = none
    · exact z
    · have eb := far b z
      rw [eb] at e z
      rw [cst z] at e
      cases e)
  have md : Mod K mg (hidT s1.heap H) := ⟨kin, dicts g1, ⟨mb, dicts g2, g3⟩, by
    obtain ⟨mc, q1, q2⟩ := g4
    exact ⟨mc, dicts q1, q2⟩⟩
  have en : Env0 P w K mg (hidT s1.heap H) callerA [] s1 H := ⟨rfl, md, fun b o e => of_hidT e, Nat.le_of_eq (hidT_size _ _), trivial, fun b hb => (List.not_mem_nil (show b ∈ ([] : List Addr) from hb)).elim, hok, .of_eq g5⟩
  have ran := (F _ kin (dicts g1)).go callerA [] s1 H ⟨[.ref a], []⟩ [.ref a] [.ref a] _ _ hr en (hbind s1 (.ref a)) (.cons rfl .nil) (hsp H hO hS)
  refine codeAny_mono ran ?_
  rintro (e | fl) s2 hq
  · exact (hCX H e s2 hq).elim
  · cases fl with
    | ret u =>
      obtain ⟨v, H2, o2, b2, un, hok2, rv, q⟩ := hq
      cases (show v = .bl true from q)
      cases (show u = Value.bool true from rv)
      refine ⟨rfl, .of_keep fun b o e => ?_, o2, b2⟩
      rcases hO b with z | ⟨ob, xs, z⟩
      · exact un.keep b o e z (fun h => by cases (show b ∈ ([] : List Addr) from h)) (by simp)
      · have y1 := (hok b _ z).1
        have y2 := (hok2 b _ (un.frzs b ob _ z)).1
        rw [e] at y1
        cases y1
        exact y2
    | _ => exact (show False from hq).elim
theorem callG (KX : K.In s1.heap) (g1 : s1.heap.Ns mainGlobals mg) (g2 : s1.heap.Ns builtinsNs mb) (g3 : ∀ x : Str, x ≠ "__name__" → mb x = bootBuiltins x) (g4 : s1.heap.NoLimit) (g5 : s1.gens = #[])
    (ha : s1.heap.get? a = some { cls := .type "list", data := .seq vs.toArray }) (hi : IntsAre vs ns) (hl : ns.length ≤ sizeLine) (hr : RoomG k callerA)
    (F : ∀ base : Heap, K.In base → base.Ns mainGlobals mg → FnOkG P w K mg base CX k fa fd [x] sp) (hbind : ∀ (s : Shared) (u : Value), BindsTo s fd ⟨[u], []⟩ [(x, u)])
    (hsp : ∀ H : Hp, Only H → SqL K H a (ns.map V.int) → sp [.ref a] H (fun v _ => v = .bl true) fun _ _ _ => False) (hCX : ∀ H e s', CX [] H s1 (fun _ _ _ => False) e s' → False) :
    codeAny (model P w) callerA (.call (.ref fa) ⟨[.ref a], []⟩) (fun r s' => r = .ok (.ret (.bool true)) ∧ OldK s1.heap s'.heap ∧ s'.os = s1.os ∧ AllBare s'.gens) s1 := by
  have rv := vals_ints hi
  cases hk : K.lookup a with
  | some o =>
    have e := KX a o hk
    rw [ha] at e
    cases e
    have hsz : vs.toArray.size ≤ sizeLine := by rw [List.size_toArray, hi.length]; exact hl
    exact callG_at KX g1 g2 g3 g4 g5 ha hr F hbind hsp hCX (H := fun _ => none) (fun _ => .inl rfl) (.inr ⟨_, vs.toArray, _, hk, rfl, rfl, rfl, hsz, by simpa using rv⟩) (fun b u z => by cases z) (fun _ _ => rfl) fun z => (z rfl).elim
  | none =>
    have at_a : onlyAt a vs ns a = some (.frz { cls := .type "list", data := .seq vs.toArray } (.lst (ns.map V.int))) := if_pos rfl
    have at_b : ∀ b, b ≠ a → onlyAt a vs ns b = none := fun b hb => if_neg hb
    refine callG_at KX g1 g2 g3 g4 g5 ha hr F hbind hsp hCX (H := onlyAt a vs ns) (fun b => ?_) (.inl (.inr ⟨_, at_a⟩)) (fun b u z => ?_) at_b fun _ => hk
    · by_cases hb : b = a
      · rw [hb]; exact .inr ⟨_, _, at_a⟩
      · exact .inl (at_b b hb)
    · by_cases hb : b = a
      · rw [hb] at z ⊢
        cases at_a.symm.trans z
        exact ⟨ha, by rw [List.length_map]; exact hl, vs, _, rv, ha⟩
      · cases (at_b b hb).symm.trans z
end
/-- the goal that k_head leaves, under no guard -/
theorem walk_G {l : PySem.W.OpenLaw} {n k : Nat} {q : Program} {loose : List Str} {XP : (Str → Option Value) → Heap → Prop} {YP : World → Heap → Prop} {d : DefRec} {K : Params → PySem.W.Frag} {sp : PySem.W.Frag → Sp} {x : Str}
    (hn : l.most = some n) (hn2 : n ≤ sizeLine) (hdf : d.params.defaults = []) (hr : Room k callerA) (hY : ∀ (w : World) (h : Heap), YP w h → (K w.params).In h)
    (F : ∀ (w : World) (mg : Str → Option Value) (fa : Addr) (h : Heap), (K w.params).In h → h.Ns mainGlobals mg → mg d.name = some (.ref fa) →
      ∃ fd : FuncData, (∀ (s : Shared) (u : Value), BindsTo s fd ⟨[u], []⟩ [(x, u)]) ∧ ∀ base : Heap, (K w.params).In base → base.Ns mainGlobals mg → FnOkG l.prog w (K w.params) mg base CX0 k fa fd [x] (sp (K w.params)))
    (hsp : ∀ (K : PySem.W.Frag) (H : Hp) (a : Addr) (ns : List Int), ns.length ≤ n → Only H → SqL K H a (ns.map V.int) → sp K [.ref a] H (fun v _ => v = .bl true) fun _ _ _ => False) :
    PySem.W.WalkO q loose XP YP l.row.toRowW d [] (fun f vs => PySem.call f vs) := by
  refine Att.attach_call hn hdf ?_
  intro w s0 s1 mg mb fa o pm cd doc a vs ns G Y ho hd hcd hmg hobj hints hlen hg
  have KX := hY w _ Y
  obtain ⟨fd, hb, hF⟩ := F w mg fa _ KX G.T.g hmg
  exact callG KX G.T.g G.T.b G.T.builtins G.T.nolimit hg hobj hints (Nat.le_trans hlen hn2) ⟨hr, rfl⟩ hF hb (fun H hO hS => hsp (K w.params) H a ns hlen hO hS) fun _ _ _ h => h
end L3

/-! L3R: repr. -/
namespace L3
open PySem PySem.Spec PyProof.Rows L2
mutual
/-- no list within -/
def listFree : PyData → Bool
  | .list _ => false
  | .tuple xs => listFreeAll xs
  | .dict kvs => listFreeKv kvs
  | _ => true
def listFreeAll : List PyData → Bool
  | [] => true
  | x :: xs => listFree x && listFreeAll xs
def listFreeKv : List (PyData × PyData) → Bool
  | [] => true
  | (_, v) :: r => listFree v && listFreeKv r
end
theorem listFreeKv_snd : ∀ kvs : List (PyData × PyData), listFreeKv kvs = listFreeAll (kvs.map (·.2))
  | [] => by simp [listFreeKv, listFreeAll]
  | (_, v) :: r => by simp [listFreeKv, listFreeAll, listFreeKv_snd r]
theorem keys_reads {h : Heap} : ∀ (ks : List Key) (us : List Value), Vals (ks.map kV) us → ∃ as, ReadsAll h us (ks.map keyD) as ∧ sysModules ∉ as
  | [], _, r => by cases r; exact ⟨[], .nil, by simp⟩
  | k :: ks, _, r => by
    cases r with
    | cons a t =>
      obtain ⟨as, q, n⟩ := keys_reads ks _ t
      cases k with
      | inl i => obtain ⟨tk, rfl⟩ := a; exact ⟨[] ++ as, .cons (.int i tk) q, by simpa using n⟩
      | inr x => obtain ⟨tk, rfl⟩ := a; exact ⟨[] ++ as, .cons (.str x tk) q, by simpa using n⟩
section
variable {X : Cx} {pins : List (Addr × Obj)} {σ : L2.St} {H : Hp} {s : Shared}
theorem tkeys_reads (I : Inv X pins σ H s) : ∀ {kvs : List (List Key × V)} {xs : List (List Key × Addr × Value)}, Paired (fun (p : List Key × V) (q : List Key × Addr × Value) => p.1 = q.1 ∧ H q.2.1 = some (.tup (p.1.map kV)) ∧ RelV p.2 q.2.2) kvs xs →
    (∃ as, ReadsAll s.heap (xs.map fun q => Value.ref q.2.1) (kvs.map fun p => PyData.tuple (p.1.map keyD)) as ∧ sysModules ∉ as) ∧ Vals (kvs.map (·.2)) (xs.map fun q => q.2.2)
  | _, _, .nil => ⟨⟨[], .nil, by simp⟩, .nil⟩
  | _, _, .cons h t => by
    obtain ⟨⟨as, q, n⟩, v⟩ := tkeys_reads I t
    obtain ⟨e1, e2, e3⟩ := h
    obtain ⟨its, rv, ⟨o, e, c, m, d⟩, _⟩ := I.tuple (SqT.of e2)
    obtain ⟨bs, q2, n2⟩ := keys_reads (h := s.heap) _ _ rv
    refine ⟨⟨bs ++ as, .cons (.tuple e c d (by simpa using q2)) q, ?_⟩, .cons e3 v⟩
    simp only [List.mem_append, not_or]
    exact ⟨n2, n⟩
theorem bools_read (h : Heap) : ∀ l : List Bool, ReadsAll h (l.map Value.bool) (l.map PyData.bool) []
  | [] => .nil
  | b :: l => .cons (as := []) (.bool b) (bools_read h l)
theorem bool_ents {es : List DictEntry} {vs : List (Bool × Bool)} (pr : es.map (fun e => (e.key, e.val)) = vs.map (fun p => (Value.bool p.1, Value.bool p.2))) (h : Heap) :
    ReadsAll h (es.map (·.key)) ((truD vs).map (·.1)) [] ∧ ReadsAll h (es.map (·.val)) ((truD vs).map (·.2)) [] := by
  have e1 := congrArg (List.map Prod.fst) pr
  have e2 := congrArg (List.map Prod.snd) pr
  rw [List.map_map, List.map_map] at e1 e2
  have q1 : es.map (·.key) = (vs.map (·.1)).map Value.bool := by rw [List.map_map]; exact e1
  have q2 : es.map (·.val) = (vs.map (·.2)).map Value.bool := by rw [List.map_map]; exact e2
  have p1 : (truD vs).map (·.1) = (vs.map (·.1)).map PyData.bool := by unfold truD; rw [List.map_map, List.map_map]; rfl
  have p2 : (truD vs).map (·.2) = (vs.map (·.2)).map PyData.bool := by unfold truD; rw [List.map_map, List.map_map]; rfl
  rw [q1, q2, p1, p2]
  exact ⟨bools_read h _, bools_read h _⟩
mutual
theorem rp_reads (I : Inv X pins σ H s) : ∀ {d : PyData} {v : V} {u : Value}, Rp X.K H v d → RelV v u → ∃ as, Reads s.heap u d as ∧ (listFree d = true → sysModules ∉ as)
  | _, _, u, .non, r => by cases r; exact ⟨[], .none, fun _ => by simp⟩
  | _, _, u, .bl b, r => by cases r; exact ⟨[], .bool b, fun _ => by simp⟩
  | _, _, u, .int i, r => by obtain ⟨t, rfl⟩ := r; exact ⟨[], .int i t, fun _ => by simp⟩
  | _, _, u, .str x, r => by obtain ⟨t, rfl⟩ := r; exact ⟨[], .str x t, fun _ => by simp⟩
  | _, _, u, .lst q t, r => by
    cases r
    obtain ⟨its, rv, ⟨o, n, e, c, _, d⟩, _⟩ := I.list q
    obtain ⟨as, q2, _⟩ := rp_readsAll I t rv
    exact ⟨_, .list e c d (by simpa using q2), fun z => by simp [listFree] at z⟩
  | _, _, u, .tup q t, r => by
    cases r
    obtain ⟨its, rv, ⟨o, e, c, m, d⟩, _⟩ := I.tuple (SqT.of q)
    obtain ⟨as, q2, n2⟩ := rp_readsAll I t rv
    exact ⟨_, .tuple e c d (by simpa using q2), fun z => n2 (by simpa [listFree] using z)⟩
  | _, _, u, .dK (kvs := kvs) (ds := ds) q t, r => by
    cases r
    obtain ⟨_, hS, vs, kv, o, es, ep, e, c, dd, _, pr, _⟩ := (show ObjOk X.prog X.w H s.heap _ (.dK kvs) from q.rd.ok I.hok)
    obtain ⟨vv, ke⟩ := kv_vals kv
    obtain ⟨as, r1, n1⟩ := pairs_keys pr s.heap
    obtain ⟨bs, r2, n2⟩ := rp_readsAll I t vv
    have hl : ds.length = (kvs.map fun p => keyD p.1).length := by rw [← t.length, List.length_map, List.length_map]
    have e1 : (((kvs.map fun p => keyD p.1).zip ds).map (·.1)) = vs.map fun p => keyD p.1 := by
      rw [List.map_fst_zip (by omega), show (vs.map fun p => keyD p.1) = (vs.map (·.1)).map keyD by rw [List.map_map]; rfl, ke, List.map_map]
      rfl
    have e2 : (((kvs.map fun p => keyD p.1).zip ds).map (·.2)) = ds := List.map_snd_zip (by omega)
    refine ⟨_, .dict e c.1 dd (by rw [e1]; exact r1) (by rw [e2, pairs_vals pr]; exact r2), fun z => ?_⟩
    have z2 : listFreeAll ds = true := by
      have : listFreeKv ((kvs.map fun p => keyD p.1).zip ds) = true := by simpa [listFree] using z
      rw [listFreeKv_snd, e2] at this
      exact this
    have na := beq_eq_false_iff_ne.mp hS
    simp only [List.cons_append, List.mem_cons, List.mem_append, not_or]
    exact ⟨fun w => na w.symm, n1, n2 z2⟩
  | _, _, u, .dT (kvs := kvs) (ds := ds) q _ t, r => by
    cases r
    obtain ⟨_, hS, xs, pr, o, es, ep, e, c, dd, ee, _⟩ := (show ObjOk X.prog X.w H s.heap _ (.dT kvs) from q.ok I.hok)
    obtain ⟨⟨as, r1, n1⟩, vv⟩ := tkeys_reads I pr
    obtain ⟨bs, r2, n2⟩ := rp_readsAll I t vv
    have hl : ds.length = (kvs.map fun p => PyData.tuple (p.1.map keyD)).length := by rw [← t.length, List.length_map, List.length_map]
    have e1 : (((kvs.map fun p => PyData.tuple (p.1.map keyD)).zip ds).map (·.1)) = kvs.map fun p => PyData.tuple (p.1.map keyD) := List.map_fst_zip (by omega)
    have e2 : (((kvs.map fun p => PyData.tuple (p.1.map keyD)).zip ds).map (·.2)) = ds := List.map_snd_zip (by omega)
    refine ⟨_, .dict e c.1 dd (by rw [e1, ee, List.map_map]; exact r1) (by rw [e2, ee, List.map_map]; exact r2), fun z => ?_⟩
    have z2 : listFreeAll ds = true := by
      have : listFreeKv ((kvs.map fun p => PyData.tuple (p.1.map keyD)).zip ds) = true := by simpa [listFree] using z
      rw [listFreeKv_snd, e2] at this
      exact this
    have na := beq_eq_false_iff_ne.mp hS
    simp only [List.cons_append, List.mem_cons, List.mem_append, not_or]
    exact ⟨fun w => na w.symm, n1, n2 z2⟩
  | _, _, u, .dB (vs := vs) q _, r => by
    cases r
    obtain ⟨⟨hS, o, es, ep, e, c, dd, pr, kk, _⟩, _⟩ := (show ObjOk X.prog X.w H s.heap _ (boolO _ vs) from I.hok _ _ q)
    obtain ⟨r1, r2⟩ := bool_ents pr s.heap
    refine ⟨_, .dict e c.1 dd r1 r2, fun z => ?_⟩
    have na := beq_eq_false_iff_ne.mp hS
    simp only [List.append_nil, List.mem_cons, List.not_mem_nil, or_false]
    exact fun w => na w.symm
theorem rp_readsAll (I : Inv X pins σ H s) : ∀ {ds : List PyData} {vs : List V} {us : List Value}, RpAll X.K H vs ds → Vals vs us → ∃ as, ReadsAll s.heap us ds as ∧ (listFreeAll ds = true → sysModules ∉ as)
  | _, _, _, .nil, r => by cases r; exact ⟨[], .nil, fun _ => by simp⟩
  | _, _, _, .cons h t, r => by
    cases r with
    | cons a b =>
      obtain ⟨as, r1, n1⟩ := rp_reads I h a
      obtain ⟨bs, r2, n2⟩ := rp_readsAll I t b
      refine ⟨_, .cons r1 r2, fun z => ?_⟩
      rw [listFreeAll, Bool.and_eq_true] at z
      simp only [List.mem_append, not_or]
      exact ⟨n1 z.1, n2 z.2⟩
end
end
mutual
/-- what stands for a datum is shown as that datum is: no word on where lists stand -/
theorem rp_shows {X : Cx} {pins : List (Addr × Obj)} {σ : L2.St} {H : Hp} {s : Shared} (I : Inv X pins σ H s) : ∀ {d : PyData} {v : V} {u : Value}, Rp X.K H v d → RelV v u → d.showable = true → d.shown.length ≤ sizeLine →
    ∃ bs, ReadAtMost s.heap d.depth bs ∧ ReprK X.prog X.w bs s.heap d.depth u d.shown
  | _, _, u, .non, r, _, _ => by
    cases r
    exact ⟨[], nofun, by simp only [PyData.shown]; exact .of_is ReprIs.none _ _ _⟩
  | _, _, u, .bl b, r, _, _ => by
    cases r
    exact ⟨[], nofun, by simp only [PyData.shown]; exact .of_is (ReprIs.bool b) _ _ _⟩
  | _, _, u, .int i, r, hs, _ => by
    obtain ⟨t, rfl⟩ := r
    exact ⟨[], nofun, by simp only [PyData.shown]; exact .of_is (ReprIs.int t (by simpa [PyData.showable] using hs)) _ _ _⟩
  | _, _, u, .str x, r, _, hz => by
    obtain ⟨t, rfl⟩ := r
    exact ⟨[], nofun, by simp only [PyData.shown]; exact .of_is (ReprIs.str x t (by simpa only [PyData.shown] using hz)) _ _ _⟩
  | _, _, u, .lst (ds := ds) q t, r, hs, hz => by
    have rp := rp_reads I (.lst q t) r
    cases r
    obtain ⟨its, rv, ⟨o, n, e, c, _, d⟩, _⟩ := I.list q
    have hz2 : (listText (PyData.shownAll ds)).length ≤ sizeLine := by simpa only [PyData.shown] using hz
    obtain ⟨bs, hb, hk⟩ := rp_showsAll I t rv (by simpa [PyData.showable] using hs) fun x hx => Nat.le_trans (listText_mem_le hx) hz2
    obtain ⟨as, q2, _⟩ := rp
    have up : ∀ (m : Nat), m < (PyData.list ds).depth → ReadAtMost s.heap m bs → _ ∉ bs := fun m hm hb => not_mem_of_deeper q2 hm hb
    have hn := up _ (by simp only [PyData.depth]; omega) hb
    refine ⟨_ :: bs, ReadAtMost.cons q2 (by simp only [PyData.depth]; omega) hb, ?_⟩
    simp only [PyData.depth, PyData.shown]
    cases its with
    | nil =>
      have hk2 : ReprAllK X.prog X.w bs s.heap _ [] (PyData.shownAll ds) := hk
      generalize PyData.shownAll ds = ts at hk2
      cases hk2
      rw [listText_nil]
      exact ReprK.listEmpty e c d
    | cons x l => exact ReprK.list e c d hn (by simpa using hk.length_eq) fun i y z => hk.item i y (by simpa using z)
  | _, _, u, .tup (ds := ds) q t, r, hs, hz => by
    have rp := rp_reads I (.tup q t) r
    cases r
    obtain ⟨its, rv, ⟨o, e, c, m, d⟩, _⟩ := I.tuple (SqT.of q)
    have hz2 : (tupleText (PyData.shownAll ds)).length ≤ sizeLine := by simpa only [PyData.shown] using hz
    obtain ⟨bs, hb, hk⟩ := rp_showsAll I t rv (by simpa [PyData.showable] using hs) fun x hx => Nat.le_trans (tupleText_mem_le hx) hz2
    obtain ⟨as, q2, _⟩ := rp
    have hn := not_mem_of_deeper q2 (n := PyData.depthAll ds) (by simp only [PyData.depth]; omega) hb
    refine ⟨_ :: bs, ReadAtMost.cons q2 (by simp only [PyData.depth]; omega) hb, ?_⟩
    simp only [PyData.depth, PyData.shown]
    exact ReprK.tuple e c d hn hk
  | _, _, u, .dK (kvs := kvs) (ds := ds) q t, r, hs, hz => by
    have rp := rp_reads I (.dK q t) r
    cases r
    obtain ⟨_, hS, vs, kv, o, es, ep, e, c, dd, _, pr, _⟩ := (show ObjOk X.prog X.w H s.heap _ (.dK kvs) from q.rd.ok I.hok)
    obtain ⟨vv, ke⟩ := kv_vals kv
    obtain ⟨as, r1, n1⟩ := pairs_keys pr s.heap
    have hl : ds.length = (kvs.map fun p => keyD p.1).length := by rw [← t.length, List.length_map, List.length_map]
    have e1 : (((kvs.map fun p => keyD p.1).zip ds).map (·.1)) = vs.map fun p => keyD p.1 := by
      rw [List.map_fst_zip (by omega), show (vs.map fun p => keyD p.1) = (vs.map (·.1)).map keyD by rw [List.map_map]; rfl, ke, List.map_map]
      rfl
    have e2 : (((kvs.map fun p => keyD p.1).zip ds).map (·.2)) = ds := List.map_snd_zip (by omega)
    have z2 : (dictText (PyData.shownKv ((kvs.map fun p => keyD p.1).zip ds))).length ≤ sizeLine := by simpa only [PyData.shown] using hz
    obtain ⟨s1, s2⟩ := PyData.showableKv_split _ (by simpa [PyData.showable] using hs)
    obtain ⟨b1, u1, k1⟩ := ReprAllK.of_readsAll (prog := X.prog) (w := X.w) (h₀ := s.heap) (ds := ((kvs.map fun p => keyD p.1).zip ds).map (·.1)) (by rw [e1]; exact r1) s1 (fun _ => n1) fun x hx => by
      obtain ⟨p, hp, hl⟩ := PyData.shownKv_key_le _ x hx
      exact Nat.le_trans hl (Nat.le_trans (dictText_mem_le hp) z2)
    obtain ⟨b2, u2, k2⟩ := rp_showsAll I t vv (by rw [e2] at s2; exact s2) fun x hx => by
      obtain ⟨p, hp, hl⟩ := PyData.shownKv_val_le _ x (by rw [e2]; exact hx)
      exact Nat.le_trans hl (Nat.le_trans (dictText_mem_le hp) z2)
    obtain ⟨as2, q2, _⟩ := rp
    have w1 := PyData.depthAll_keys_le ((kvs.map fun p => keyD p.1).zip ds)
    have w2 := PyData.depthAll_vals_le ((kvs.map fun p => keyD p.1).zip ds)
    rw [e2] at w2
    have hb := (u1.mono w1).append (u2.mono w2)
    have hn := not_mem_of_deeper q2 (by simp only [PyData.depth]; omega) hb
    refine ⟨_ :: (b1 ++ b2), ReadAtMost.cons q2 (by simp only [PyData.depth]; omega) hb, ?_⟩
    simp only [PyData.depth, PyData.shown, PyData.shownKv_eq]
    refine ReprK.dict e c.1 dd hS hn (ReprEntriesK.of_two es.toList _ _ (k1.more_le (fun b hb => List.mem_append_left _ hb) w1) ?_)
    rw [e2]
    rw [← pairs_vals pr] at k2
    exact k2.more_le (fun b hb => List.mem_append_right _ hb) w2
  | _, _, u, .dT (kvs := kvs) (ds := ds) q hne t, r, hs, hz => by
    have rp := rp_reads I (.dT q hne t) r
    cases r
    obtain ⟨_, hS, xs, pr, o, es, ep, e, c, dd, ee, _⟩ := (show ObjOk X.prog X.w H s.heap _ (.dT kvs) from q.ok I.hok)
    obtain ⟨⟨as, r1, n1⟩, vv⟩ := tkeys_reads I pr
    have hl : ds.length = (kvs.map fun p => PyData.tuple (p.1.map keyD)).length := by rw [← t.length, List.length_map, List.length_map]
    have e1 : (((kvs.map fun p => PyData.tuple (p.1.map keyD)).zip ds).map (·.1)) = kvs.map fun p => PyData.tuple (p.1.map keyD) := List.map_fst_zip (by omega)
    have e2 : (((kvs.map fun p => PyData.tuple (p.1.map keyD)).zip ds).map (·.2)) = ds := List.map_snd_zip (by omega)
    have z2 : (dictText (PyData.shownKv ((kvs.map fun p => PyData.tuple (p.1.map keyD)).zip ds))).length ≤ sizeLine := by simpa only [PyData.shown] using hz
    obtain ⟨s1, s2⟩ := PyData.showableKv_split _ (by simpa [PyData.showable] using hs)
    obtain ⟨b1, u1, k1⟩ := ReprAllK.of_readsAll (prog := X.prog) (w := X.w) (h₀ := s.heap) (ds := ((kvs.map fun p => PyData.tuple (p.1.map keyD)).zip ds).map (·.1)) (by rw [e1]; exact r1) s1 (fun _ => n1) fun x hx => by
      obtain ⟨p, hp, hl⟩ := PyData.shownKv_key_le _ x hx
      exact Nat.le_trans hl (Nat.le_trans (dictText_mem_le hp) z2)
    obtain ⟨b2, u2, k2⟩ := rp_showsAll I t vv (by rw [e2] at s2; exact s2) fun x hx => by
      obtain ⟨p, hp, hl⟩ := PyData.shownKv_val_le _ x (by rw [e2]; exact hx)
      exact Nat.le_trans hl (Nat.le_trans (dictText_mem_le hp) z2)
    obtain ⟨as2, q2, _⟩ := rp
    have w1 := PyData.depthAll_keys_le ((kvs.map fun p => PyData.tuple (p.1.map keyD)).zip ds)
    have w2 := PyData.depthAll_vals_le ((kvs.map fun p => PyData.tuple (p.1.map keyD)).zip ds)
    rw [e2] at w2
    have hb := (u1.mono w1).append (u2.mono w2)
    have hn := not_mem_of_deeper q2 (by simp only [PyData.depth]; omega) hb
    refine ⟨_ :: (b1 ++ b2), ReadAtMost.cons q2 (by simp only [PyData.depth]; omega) hb, ?_⟩
    simp only [PyData.depth, PyData.shown, PyData.shownKv_eq]
    refine ReprK.dict e c.1 dd hS hn ?_
    rw [e2] at *
    refine ReprEntriesK.of_two es.toList _ _ ?_ ?_
    · rw [ee, List.map_map]
      exact k1.more_le (fun b hb => List.mem_append_left _ hb) w1
    · rw [ee, List.map_map]
      exact k2.more_le (fun b hb => List.mem_append_right _ hb) w2
  | _, _, u, .dB (vs := vs) q hne, r, hs, hz => by
    have rp := rp_reads I (.dB q hne) r
    cases r
    obtain ⟨⟨hS, o, es, ep, e, c, dd, pr, kk, _⟩, _⟩ := (show ObjOk X.prog X.w H s.heap _ (boolO _ vs) from I.hok _ _ q)
    obtain ⟨r1, r2⟩ := bool_ents pr s.heap
    have z2 : (dictText (PyData.shownKv (truD vs))).length ≤ sizeLine := by simpa only [PyData.shown] using hz
    obtain ⟨s1, s2⟩ := PyData.showableKv_split _ (by simpa [PyData.showable] using hs)
    obtain ⟨b1, u1, k1⟩ := ReprAllK.of_readsAll (prog := X.prog) (w := X.w) (h₀ := s.heap) r1 s1 (fun _ => by simp) fun x hx => by
      obtain ⟨p, hp, hl⟩ := PyData.shownKv_key_le _ x hx
      exact Nat.le_trans hl (Nat.le_trans (dictText_mem_le hp) z2)
    obtain ⟨b2, u2, k2⟩ := ReprAllK.of_readsAll (prog := X.prog) (w := X.w) (h₀ := s.heap) r2 s2 (fun _ => by simp) fun x hx => by
      obtain ⟨p, hp, hl⟩ := PyData.shownKv_val_le _ x hx
      exact Nat.le_trans hl (Nat.le_trans (dictText_mem_le hp) z2)
    obtain ⟨as2, q2, _⟩ := rp
    have w1 := PyData.depthAll_keys_le (truD vs)
    have w2 := PyData.depthAll_vals_le (truD vs)
    have hb := (u1.mono w1).append (u2.mono w2)
    have hn := not_mem_of_deeper q2 (by simp only [PyData.depth]; omega) hb
    refine ⟨_ :: (b1 ++ b2), ReadAtMost.cons q2 (by simp only [PyData.depth]; omega) hb, ?_⟩
    simp only [PyData.depth, PyData.shown, PyData.shownKv_eq]
    exact ReprK.dict e c.1 dd hS hn (ReprEntriesK.of_two es.toList _ _ (k1.more_le (fun b hb => List.mem_append_left _ hb) w1) (k2.more_le (fun b hb => List.mem_append_right _ hb) w2))
theorem rp_showsAll {X : Cx} {pins : List (Addr × Obj)} {σ : L2.St} {H : Hp} {s : Shared} (I : Inv X pins σ H s) : ∀ {ds : List PyData} {vs : List V} {us : List Value}, RpAll X.K H vs ds → Vals vs us → PyData.showableAll ds = true → (∀ x ∈ PyData.shownAll ds, x.length ≤ sizeLine) →
    ∃ bs, ReadAtMost s.heap (PyData.depthAll ds) bs ∧ ReprAllK X.prog X.w bs s.heap (PyData.depthAll ds) us (PyData.shownAll ds)
  | _, _, _, .nil, r, _, _ => by
    cases r
    exact ⟨[], nofun, by simp only [PyData.shownAll]; exact .nil⟩
  | _, _, _, .cons (d := d) (ds := ds) h t, r, hs, hz => by
    cases r with
    | cons a b =>
      simp only [PyData.showableAll, Bool.and_eq_true] at hs
      obtain ⟨b1, u1, k1⟩ := rp_shows I h a hs.1 (hz _ (by simp [PyData.shownAll]))
      obtain ⟨b2, u2, k2⟩ := rp_showsAll I t b hs.2 fun x hx => hz x (by simp [PyData.shownAll, hx])
      refine ⟨b1 ++ b2, ?_, ?_⟩
      · simp only [PyData.depthAll]
        exact (u1.mono (Nat.le_max_left _ _)).append (u2.mono (Nat.le_max_right _ _))
      · simp only [PyData.depthAll, PyData.shownAll]
        exact .cons ((k1.more fun b hb => List.mem_append_left _ hb).level_le (Nat.le_max_left _ _)) (k2.more_le (fun b hb => List.mem_append_right _ hb) (Nat.le_max_right _ _))
end
def tupD : PyData → Bool
  | .tuple _ => true
  | _ => false
def reprD : List PyData → Option RV
  | [d] => if d.showable = true ∧ ((d.hasDict = false ∨ listFree d = true) ∨ tupD d = true) ∧ d.depth ≤ 60 ∧ d.shown.length ≤ lineN then some (.fz (.str d.shown)) else none
  | _ => none
section
variable {X : Cx} {k : Nat}
theorem Rp.atom {K : PySem.W.Frag} {H : Hp} {v : V} {d : PyData} (h : Rp K H v d) : (∃ a, v = .ref a) ∨ (v = .non ∧ d = .none) ∨ (∃ b, v = .bl b ∧ d = .bool b) ∨ (∃ i, v = .int i ∧ d = .int i) ∨ ∃ x, v = .str x ∧ d = .str x := by
  cases h with
  | non => exact .inr (.inl ⟨rfl, rfl⟩)
  | bl b => exact .inr (.inr (.inl ⟨b, rfl, rfl⟩))
  | int i => exact .inr (.inr (.inr (.inl ⟨i, rfl, rfl⟩)))
  | str x => exact .inr (.inr (.inr (.inr ⟨x, rfl, rfl⟩)))
  | lst _ _ => exact .inl ⟨_, rfl⟩
  | tup _ _ => exact .inl ⟨_, rfl⟩
  | dK _ _ => exact .inl ⟨_, rfl⟩
  | dT _ _ _ => exact .inl ⟨_, rfl⟩
  | dB _ _ => exact .inl ⟨_, rfl⟩
theorem c_repr (hr : RoomG k X.A) : CallR X (.builtin "repr") (rCall X.K reprD) := by
  intro pins s σ H xs us Q I r ⟨F, ds, rv, sm, kx, hf, g⟩
  unfold reprD at hf
  split at hf
  case h_2 => cases hf
  rename_i d
  split at hf
  case isFalse => cases hf
  rename_i hc
  cases hf
  obtain ⟨v, rfl, rk⟩ := rk1 kx
  obtain ⟨u, rfl, ru⟩ := vals1 r
  have rp := rk.rp sm
  have q := g.flat sm (.str d.shown)
  rcases rp.atom with ⟨a, rfl⟩ | ⟨rfl, rfl⟩ | ⟨b, rfl, rfl⟩ | ⟨i, rfl, rfl⟩ | ⟨x, rfl, rfl⟩
  · obtain ⟨as, rd, ns⟩ := rp_reads I rp ru
    cases ru
    have hu := hr.units
    rcases hc.2.1 with hd | ht
    case inr =>
      cases rp with
      | tup q0 t =>
        rename_i ds
        obtain ⟨its, rv, ⟨o, e, c, m, d⟩, _⟩ := I.tuple (SqT.of q0)
        have hz2 : (tupleText (PyData.shownAll ds)).length ≤ sizeLine := by have := line_le hc.2.2.2; simpa only [PyData.shown] using this
        obtain ⟨bs, hb, hk⟩ := rp_showsAll I t rv (by simpa [PyData.showable] using hc.1) fun x hx => Nat.le_trans (tupleText_mem_le hx) hz2
        have hn := not_mem_of_deeper rd (n := PyData.depthAll ds) (by simp only [PyData.depth]; omega) hb
        have hdp := hc.2.2.1
        simp only [PyData.depth] at hdp
        simp only [PyData.shown] at q
        refine call_repr_slot (by omega) ⟨o, e, c⟩ PySem.F.slot_tuple_repr (call_tuple_reprK (h₀ := s.heap) e c d hn hk hr.g (fun b _ => Clear.nil b) (by show X.A.units + 1 + (PyData.depthAll ds + 1) < cLine; omega) (fun _ _ z => z) (fun h' t tk keep => ⟨_, _, rfl, .str _, H, I.kept keep, ⟨t, rfl⟩, q⟩) hz2)
      | lst _ _ => cases ht
      | dK _ _ => cases ht
      | dT _ _ _ => cases ht
      | dB _ _ => cases ht
    refine repr_of_reads' (h₀ := s.heap) rd hc.1 (fun z => ?_) hr.g (by have := hc.2.2.1; omega) (fun _ _ e => e) (fun h' t tk keep => ⟨.str d.shown, H, I.kept keep, ⟨t, rfl⟩, q⟩) (line_le hc.2.2.2)
    rcases hd with y | y
    · rw [z] at y; cases y
    · exact ns y
  · cases ru
    simp only [PyData.shown] at q
    exact PySem.P.repr_of_none ⟨.str _, H, I.tok _, ⟨_, rfl⟩, q⟩
  · cases ru
    simp only [PyData.shown] at q
    exact PySem.P.repr_of_bool ⟨.str _, H, I.tok _, ⟨_, rfl⟩, q⟩
  · obtain ⟨t, rfl⟩ := ru
    simp only [PyData.shown] at q
    exact PySem.P.repr_of_int (by simpa [PyData.showable] using hc.1) ⟨.str _, H, I.tok _, ⟨_, rfl⟩, q⟩
  · obtain ⟨t, rfl⟩ := ru
    simp only [PyData.shown] at q
    exact PySem.P.repr_of_str ⟨.str _, H, I.tok _, ⟨_, rfl⟩, q⟩ (by have := hc.2.2.2; simp only [PyData.shown] at this; exact line_le this)
end
end L3

/-! L3S: sorted, max and min and sum of a list, extend. -/
namespace L3
open PySem PySem.Spec PyProof.Rows L2
/-! ### sorted -/
def tupNE : PyData → Bool
  | .tuple (_ :: _) => true
  | _ => false
def noTup : PyData → Bool
  | .none => false
  | .tuple _ => false
  | _ => true
def canSort (ds : List PyData) : Bool := (ds.all fun d => ds.all fun e => PySem.W.alike d e) && (ds.all tupNE || ds.all noTup) && ds.all fun d => decide (d.depth ≤ 50)
def sortD (ds : List PyData) : List PyData := ds.mergeSort (PySem.W.dataLe false fun d => d)
def sortedD : List PyData → Option RV
  | [.list ds] => if canSort ds = true then some (.own (.list (sortD ds))) else none
  | _ => none
theorem can_sort {ds : List PyData} (h : canSort ds = true) : PySem.W.AllAlike ds ∧ PySem.W.Sortable ds ∧ ∀ d ∈ ds, d.depth ≤ 50 := by
  unfold canSort at h
  rw [Bool.and_eq_true, Bool.and_eq_true, Bool.or_eq_true, List.all_eq_true, List.all_eq_true, List.all_eq_true, List.all_eq_true] at h
  obtain ⟨⟨h1, h2⟩, h3⟩ := h
  refine ⟨fun d hd e he => List.all_eq_true.mp (h1 d hd) e he, ?_, fun d hd => of_decide_eq_true (h3 d hd)⟩
  rcases h2 with h2 | h2
  · refine .inl fun d hd => ?_
    have := h2 d hd
    cases d with
    | tuple xs => cases xs with
      | nil => cases this
      | cons x r => exact ⟨x, r, rfl⟩
    | _ => cases this
  · refine .inr fun d hd => ?_
    have := h2 d hd
    cases d with
    | none => cases this
    | tuple xs => cases this
    | _ => exact ⟨(fun z => nomatch z), (fun _ z => nomatch z)⟩
theorem each_rp {K : PySem.W.Frag} {F : Hp} : ∀ {vs : List V} {us : List Value} {ds : List PyData}, Vals vs us → RpAll K F vs ds → PySem.W.EachIs (fun u d => ∃ v, RelV v u ∧ Rp K F v d) us ds
  | _, _, _, .nil, r => by cases r; exact .nil
  | _, _, _, .cons a t, r => by
    cases r with
    | cons h r => exact .cons ⟨_, a, h⟩ (each_rp t r)
theorem rp_each {K : PySem.W.Frag} {F : Hp} : ∀ {us : List Value} {ds : List PyData}, PySem.W.EachIs (fun u d => ∃ v, RelV v u ∧ Rp K F v d) us ds → ∃ vs, Vals vs us ∧ RpAll K F vs ds
  | _, _, .nil => ⟨[], .nil, .nil⟩
  | _, _, .cons ⟨v, a, h⟩ t => by
    obtain ⟨vs, q1, q2⟩ := rp_each t
    exact ⟨v :: vs, .cons a q1, .cons h q2⟩
section
variable {X : Cx} {k : Nat}
theorem c_sorted (hr : RoomG k X.A) : CallR X (.builtin "sorted") (rCall X.K sortedD) := by
  intro pins s σ H xs us Q I r ⟨F, ds, rv, sm, kx, hf, g⟩
  unfold sortedD at hf
  split at hf
  case h_2 => cases hf
  rename_i ds
  split at hf
  case isFalse => cases hf
  rename_i hc
  cases hf
  obtain ⟨h1, h2, h3⟩ := can_sort hc
  obtain ⟨v, rfl, rk⟩ := rk1 kx
  obtain ⟨u, rfl, ru⟩ := vals1 r
  obtain ⟨a, vs, rfl, q, rp⟩ := rk.lst sm
  cases ru
  obtain ⟨its, rv, hl, hz⟩ := I.list q
  obtain ⟨as, rd, _⟩ := rp_readsAll I (rp.mono sm) rv
  have hu := hr.units
  have em : ds.map (fun d => d) = ds := List.map_id' ds
  have rd' : ReadsAll s.heap its (ds.map fun d => d) as := by rw [em]; exact rd
  refine PySem.W.sorted_data (enc := fun d => d) (bs := ds) hl.isList (each_rp rv rp) (PySem.W.readsAll_each (fun d => d) rd') (by rw [em]; exact h1) (by rw [em]; exact h2) (by rw [← rp.length]; exact hz) (fun d hd => by have := h3 d hd; omega) fun out hlen ho => ?_
  obtain ⟨ws, w1, w2⟩ := rp_each ho
  obtain ⟨ep, he'⟩ := PyProof.Rows.sortedAll_at s.heap its out.toArray
  have hw : ws.length ≤ sizeLine := by rw [w1.length, hlen, ← rp.length]; exact hz
  exact ⟨.ref _, upd H (s.heap.objs.size + 1) (.lst ws), I.laid (t' := s.toks) (fun _ _ => PyProof.Rows.sortedAll_old) (Nat.le_succ _) ⟨hw, out, ep, w1, by simpa using he'⟩, rfl, g.newList sm w2 (I.hok.fresh (Nat.le_succ _))⟩
/-! ### max, min, sum -/
def intsOf : List PyData → Option (List Int)
  | [] => some []
  | .int i :: ds => (intsOf ds).bind fun ns => some (i :: ns)
  | _ => none
theorem rp_ints {K : PySem.W.Frag} {F : Hp} : ∀ {ds : List PyData} {vs : List V} {ns : List Int}, RpAll K F vs ds → intsOf ds = some ns → vs = ns.map V.int
  | [], _, _, h, e => by cases h; cases e; rfl
  | .int b :: ds, _, _, h, e => by
    obtain ⟨bs, e1, e2⟩ := bind_some e
    cases e2
    cases h with
    | cons a t =>
      cases a
      rw [List.map_cons, ← rp_ints t e1]
  | .none :: _, _, _, _, e => by cases e
  | .bool _ :: _, _, _, _, e => by cases e
  | .str _ :: _, _, _, _, e => by cases e
  | .list _ :: _, _, _, _, e => by cases e
  | .tuple _ :: _, _, _, _, e => by cases e
  | .dict _ :: _, _, _, _, e => by cases e
theorem intsOf_map : ∀ ns : List Int, intsOf (ns.map PyData.int) = some ns
  | [] => rfl
  | n :: ns => by
    rw [List.map_cons, intsOf, intsOf_map ns]
    rfl
theorem intsOf_nil : intsOf [] = some [] := rfl
theorem intsOf_cons {i : Int} {ds : List PyData} : intsOf (.int i :: ds) = (intsOf ds).bind fun ns => some (i :: ns) := rfl
def maxLD : List PyData → Option RV
  | [.list ds] => (intsOf ds).bind fun ns => (ns.max?).bind fun m => fzI m
  | _ => none
def minLD : List PyData → Option RV
  | [.list ds] => (intsOf ds).bind fun ns => (ns.min?).bind fun m => fzI m
  | _ => none
def sumLD : List PyData → Option RV
  | [.list ds] => (intsOf ds).bind fun ns => fzI ns.sum
  | _ => none
theorem ints_arg {Q : VK} {xs : List V} {F H : Hp} {ds : List PyData} {ns : List Int} (sm : Same F H) (kx : RkAll X.K F H xs [.list ds]) (hi : intsOf ds = some ns) : ∃ a, xs = [V.ref a] ∧ SqL X.K H a (ns.map V.int) := by
  obtain ⟨v, rfl, rk⟩ := rk1 kx
  obtain ⟨a, vs, rfl, q, rp⟩ := rk.lst sm
  rw [rp_ints rp hi] at q
  exact ⟨a, rfl, q⟩
theorem c_maxL (hc : X.calm = true) : CallR X (.builtin "max") (rCall X.K maxLD) := by
  intro pins s σ H xs us Q I r ⟨F, ds, rv, sm, kx, hf, g⟩
  unfold maxLD at hf
  split at hf
  case h_2 => cases hf
  obtain ⟨ns, e1, hf⟩ := bind_some hf
  obtain ⟨m, e2, hf⟩ := bind_some hf
  cases hf
  obtain ⟨a, rfl, q⟩ := ints_arg (Q := Q) sm kx e1
  refine cr_max hc pins s σ H _ us Q I r ⟨a, ns, rfl, q, ?_, fun m' h1 h2 => ?_⟩
  · cases ns with
    | nil => cases e2
    | cons n ns => simp
  · have e3 : ns.max? = some m' := List.max?_eq_some_iff.mpr ⟨h1, h2⟩
    rw [e2] at e3
    cases e3
    exact g.flat sm (.int _)
theorem c_minL (hc : X.calm = true) : CallR X (.builtin "min") (rCall X.K minLD) := by
  intro pins s σ H xs us Q I r ⟨F, ds, rv, sm, kx, hf, g⟩
  unfold minLD at hf
  split at hf
  case h_2 => cases hf
  obtain ⟨ns, e1, hf⟩ := bind_some hf
  obtain ⟨m, e2, hf⟩ := bind_some hf
  cases hf
  obtain ⟨a, rfl, q⟩ := ints_arg (Q := Q) sm kx e1
  refine cr_min hc pins s σ H _ us Q I r ⟨a, ns, rfl, q, ?_, fun m' h1 h2 => ?_⟩
  · cases ns with
    | nil => cases e2
    | cons n ns => simp
  · have e3 : ns.min? = some m' := List.min?_eq_some_iff.mpr ⟨h1, h2⟩
    rw [e2] at e3
    cases e3
    exact g.flat sm (.int _)
theorem c_sumL (hc : X.calm = true) : CallR X (.builtin "sum") (rCall X.K sumLD) := by
  intro pins s σ H xs us Q I r ⟨F, ds, rv, sm, kx, hf, g⟩
  unfold sumLD at hf
  split at hf
  case h_2 => cases hf
  obtain ⟨ns, e1, hf⟩ := bind_some hf
  cases hf
  obtain ⟨a, rfl, q⟩ := ints_arg (Q := Q) sm kx e1
  exact cr_sum hc pins s σ H _ us Q I r ⟨a, ns, rfl, q, g.flat sm (.int _)⟩
end
/-! ### extend -/
/-- o.extend(e), e a new list -/
def eExt (o : Nat) (me : ME) : ME := fun env => (ownL env o).bind fun _ => (me env).bind fun p => match p.2 with
  | .own (.list es) => (ownL p.1 o).bind fun w => if w.2.length + es.length ≤ lineN then some (p.1.set o (w.1.put (.list (w.2 ++ es))), .fz .none) else none
  | _ => none
section
variable {X : Cx} {oe e : Expr} {o : Nat} {me : ME} {pos apos cpos : Pos}
theorem ext_to {K : PySem.W.Frag} {σ : L2.St} {H : Hp} {Q : VK} (h : tE K (eExt o me) σ H Q) : tBM K "list" rExtend (tVar o) (tCons (tE K me) tNil) σ H Q := by
  obtain ⟨F, env, A, env', r, em, k⟩ := h
  obtain ⟨⟨x0, ds0⟩, e0, em⟩ := bind_some em
  obtain ⟨⟨env1, r1⟩, e1, em⟩ := bind_some em
  dsimp only at em
  split at em
  case h_2 => cases em
  rename_i es
  obtain ⟨⟨x, ds⟩, e3, em⟩ := bind_some em
  split at em
  case isFalse => cases em
  rename_i hz
  cases em
  obtain ⟨g1, g2⟩ := ownL_some e0
  obtain ⟨a, ha, fa, ys, hy, ry⟩ := A.own (a := 0) g1 g2
  refine ⟨.ref a, ha, .inl ⟨rfl, ys, SqL.of hy⟩, F, env, A, env1, _, e1, fun v F1 H1 A1 f1 o1 n1 => ?_⟩
  obtain ⟨b, rfl, fb, ⟨zs, hb, rz⟩, nb⟩ := o1
  obtain ⟨g3, g4⟩ := ownL_some e3
  obtain ⟨a', ha', fa', xs, hx, rx⟩ := A1.own (a := 0) g3 g4
  rw [ha] at ha'
  cases ha'
  have hl : xs.length + zs.length ≤ sizeLine := by rw [rx.length, rz.length, ← lineN_eq]; exact hz
  obtain ⟨A3, f3⟩ := put_own (d' := .list (ds ++ es)) (o := .lst (xs ++ zs)) A1 g3 g4 ha ⟨_, upd_same, rx.append rz⟩
  exact ⟨a, b, xs, zs, rfl, rfl, hx, hb, hl, k .non F1 _ A3 (f1.trans f3) Rp.non trivial⟩
theorem re_ext (ho : PE X oe (tVar o)) (he : PE X e (tE X.K me)) (hbase : attributeBase oe "extend" X.env (eval oe X.env) = eval oe X.env := by rfl)
    (hfew : ((backTo cpos (starEach [e] X.env)).all (fun x => !x.1) && (backToKw cpos (keywordEach [] X.env)).all (fun x => x.1.isSome) && decide ([e].length + ([] : List Keyword).length + (if ([] : List Keyword).isEmpty then 0 else 1) < 30)) = true := by rfl)
    (hline : (apos.endLine == cpos.line) = true := by rfl) (hs : starEach (e :: []) X.env = (false, eval e X.env) :: starEach [] X.env := by rfl) (hplain : (backTo cpos (starEach [] X.env)).any (·.1) = false := by rfl) :
    PE X (.Call (.Attribute oe "extend" apos) [e] [] cpos) (tE X.K (eExt o me)) :=
  pe_imp (pe_bm PySem.F.plainAttrs_list PySem.F.slot_list_extend PySem.F.type_list_extend mt_extend ho (pa_cons he pa_nil hs) hbase hfew hline hs hplain) fun _ _ _ => ext_to
/-! steps -/
variable {env : MEnv} {Pe : MEnv → RV → Prop} {ds es : List PyData} {ns : List Int}
def kEx3 (o : Nat) (es : List PyData) (P : MEnv → RV → Prop) (e : MEnv) (w : SV × List PyData) : Prop := w.2.length + es.length ≤ lineN ∧ P (e.set o (w.1.put (.list (w.2 ++ es)))) (.fz .none)
def kEx1 (o : Nat) (P : MEnv → RV → Prop) (e : MEnv) : RV → Prop
  | .own (.list es) => WL e o (kEx3 o es P e)
  | _ => False
def kEx0 (o : Nat) (me : ME) (P : MEnv → RV → Prop) (e : MEnv) (w : SV × List PyData) : Prop := WE me e (kEx1 o P)
theorem we_ext : WE (eExt o me) env Pe ↔ WL env o (kEx0 o me Pe env) := by
  simp only [WE, WL, eExt, kEx0, wp_bind]
  refine ⟨fun h => Wp.imp h fun w h => Wp.imp h fun p h => ?_, fun h => Wp.imp h fun w h => Wp.imp h fun p h => ?_⟩
  · obtain ⟨p1, p2⟩ := p
    cases p2 with
    | own d => cases d with
      | list es =>
        have h := wp_bind.mp h
        exact Wp.imp h fun x h => by
          have h := wp_guard.mp h
          exact ⟨h.1, (wp_some.mp h.2 :)⟩
      | _ => exact (wp_none.mp h).elim
    | _ => exact (wp_none.mp h).elim
  · obtain ⟨p1, p2⟩ := p
    cases p2 with
    | own d => cases d with
      | list es => exact wp_bind.mpr (Wp.imp h fun x h => wp_guard.mpr ⟨h.1, wp_some.mpr h.2⟩)
      | _ => exact h.elim
    | _ => exact h.elim
theorem kEx0_eq {w : SV × List PyData} : kEx0 o me Pe env w ↔ WE me env (kEx1 o Pe) := Iff.rfl
theorem kEx1_eq : kEx1 o Pe env (.own (.list es)) ↔ WL env o (kEx3 o es Pe env) := Iff.rfl
theorem kEx3_eq {x : SV} : kEx3 o es Pe env (x, ds) ↔ ds.length + es.length ≤ lineN ∧ Pe (env.set o (x.put (.list (ds ++ es)))) (.fz .none) := Iff.rfl
theorem sortedD_l : sortedD [.list ds] = if canSort ds = true then some (.own (.list (sortD ds))) else none := rfl
theorem maxLD_l : maxLD [.list ds] = (intsOf ds).bind fun ns => (ns.max?).bind fun m => some (.fz (.int m)) := rfl
theorem minLD_l : minLD [.list ds] = (intsOf ds).bind fun ns => (ns.min?).bind fun m => some (.fz (.int m)) := rfl
theorem sumLD_l : sumLD [.list ds] = (intsOf ds).bind fun ns => some (.fz (.int ns.sum)) := rfl
theorem reprD_1 {d : PyData} : reprD [d] = if d.showable = true ∧ ((d.hasDict = false ∨ listFree d = true) ∨ tupD d = true) ∧ d.depth ≤ 60 ∧ d.shown.length ≤ lineN then some (.fz (.str d.shown)) else none := rfl
end
/-! ### how long what is shown is -/
theorem strA (x y : Str) : (x ++ y).length = x.length + y.length := strLen_append x y
theorem txtJoin_le (c : Nat) : ∀ ts : List Str, (∀ t ∈ ts, t.length ≤ c) → (Str.join ", " ts).length ≤ ts.length * (c + 2)
  | [], _ => by show 0 ≤ _; omega
  | [x], h => by
    have := h x List.mem_cons_self
    show x.length ≤ _
    rw [List.length_cons, List.length_nil]
    omega
  | x :: y :: r, h => by
    have h1 := h x List.mem_cons_self
    have h2 := txtJoin_le c (y :: r) fun t ht => h t (List.mem_cons_of_mem _ ht)
    show (x ++ ", " ++ Str.join ", " (y :: r)).length ≤ _
    rw [strA, strA]
    have h3 : (", " : Str).length = 2 := by decide +kernel
    rw [h3, List.length_cons, Nat.succ_mul]
    omega
theorem tupText_le (c : Nat) (ts : List Str) (h : ∀ t ∈ ts, t.length ≤ c) : (tupleText ts).length ≤ ts.length * (c + 2) + 3 := by
  have h1 := txtJoin_le c ts h
  unfold tupleText
  rw [strA, strA]
  have h2 : ("(" : Str).length = 1 := by decide +kernel
  have h4 : (Str.ofString (if ts.length == 1 then ",)" else ")")).length ≤ 2 := by split <;> decide +kernel
  rw [h2]
  omega
theorem int_len {i : Int} (h : i.natAbs < 10 ^ 100) : (Str.ofString (toString i)).length ≤ 101 := by
  by_cases h0 : 0 ≤ i
  · have := num_len h0 (k := 100) (by decide) (by omega)
    omega
  · have e : toString i = "-" ++ toString (-i) := by
      obtain ⟨n, rfl⟩ : ∃ n : Nat, i = Int.negSucc n := ⟨(-i - 1).toNat, by omega⟩
      rfl
    have h2 := num_len (m := -i) (by omega) (k := 100) (by decide) (by omega)
    rw [Str.ofString_eq_toList] at h2 ⊢
    rw [e, String.toList_append]
    have h3 : ((toString (-i)).toList.map Char.toNat).toArray.size ≤ 100 := h2
    show ((("-" : String).toList ++ (toString (-i)).toList).map Char.toNat).toArray.size ≤ 101
    rw [List.map_append, List.size_toArray, List.length_append]
    rw [List.size_toArray] at h3
    have h4 : (("-" : String).toList.map Char.toNat).length = 1 := by decide +kernel
    omega
theorem int_log {i : Int} (h : i.natAbs < 10 ^ 100) : i.natAbs.log2 < 1920 := by
  have := log_lt (m := (i.natAbs : Int)) (by omega) (by omega)
  simpa using this
/-! ### sorted numbers -/
def sortI (ns : List Int) : List Int := ns.mergeSort fun a b => decide (a ≤ b)
theorem sortD_ints (ns : List Int) : sortD (ns.map PyData.int) = (sortI ns).map PyData.int := by
  unfold sortD sortI
  refine (List.map_mergeSort fun a _ b _ => ?_).symm
  have h := congrFun (congrFun (PySem.W.dataLe_int (fun n : Int => n)) a) b
  exact h.symm
theorem sortI_perm (ns : List Int) : (sortI ns).Perm ns := List.mergeSort_perm _ _
theorem sortI_len (ns : List Int) : (sortI ns).length = ns.length := (sortI_perm ns).length_eq
theorem sortI_mem {ns : List Int} {n : Int} : n ∈ sortI ns ↔ n ∈ ns := (sortI_perm ns).mem_iff
theorem sortI_sorted (ns : List Int) : (sortI ns).Pairwise (· ≤ ·) := by
  have h := List.pairwise_mergeSort (le := fun a b : Int => decide (a ≤ b)) (fun a b c h1 h2 => by simp at *; omega) (fun a b => by simp; omega) ns
  exact h.imp fun h => by simpa using h
theorem canSort_ints (ns : List Int) : canSort (ns.map PyData.int) = true := by
  unfold canSort
  have h1 : ((ns.map PyData.int).all fun d => (ns.map PyData.int).all fun e => PySem.W.alike d e) = true := by
    rw [List.all_eq_true]
    intro d hd
    rw [List.all_eq_true]
    intro e he
    obtain ⟨a, _, rfl⟩ := List.mem_map.mp hd
    obtain ⟨b, _, rfl⟩ := List.mem_map.mp he
    rfl
  have h2 : ((ns.map PyData.int).all noTup) = true := by
    rw [List.all_eq_true]
    intro d hd
    obtain ⟨a, _, rfl⟩ := List.mem_map.mp hd
    rfl
  have h3 : ((ns.map PyData.int).all fun d => decide (d.depth ≤ 50)) = true := by
    rw [List.all_eq_true]
    intro d hd
    obtain ⟨a, _, rfl⟩ := List.mem_map.mp hd
    exact decide_eq_true (by simp [PyData.depth])
  rw [h1, h2, h3, Bool.or_true]
  rfl
theorem sortI_2 (a b : Int) : sortI [a, b] = [min a b, max a b] := by
  have h1 := sortI_len [a, b]
  have h2 := sortI_sorted [a, b]
  have h3 := sortI_perm [a, b]
  match h : sortI [a, b], h1 with
  | [x, y], _ =>
    rw [h] at h2 h3
    have h4 : x ≤ y := by
      cases h2 with
      | cons q _ => exact q y (by simp)
    have h5 : a ∈ [x, y] := h3.mem_iff.mpr (by simp)
    have h6 : b ∈ [x, y] := h3.mem_iff.mpr (by simp)
    have h7 : x ∈ [a, b] := h3.mem_iff.mp (by simp)
    have h8 : y ∈ [a, b] := h3.mem_iff.mp (by simp)
    simp only [List.mem_cons, List.not_mem_nil, or_false] at h5 h6 h7 h8
    have e1 : x = min a b := by omega
    have e2 : y = max a b := by omega
    rw [e1, e2]
theorem sortI_4 {ns : List Int} (hl : ns.length = 4) : ∃ a b c d, sortI ns = [a, b, c, d] ∧ a ≤ b ∧ b ≤ c ∧ c ≤ d ∧ a ∈ ns ∧ b ∈ ns ∧ c ∈ ns ∧ d ∈ ns := by
  have h1 := sortI_len ns
  rw [hl] at h1
  have h2 := sortI_sorted ns
  match h : sortI ns, h1 with
  | [a, b, c, d], _ =>
    rw [h] at h2
    have mem : ∀ n, n ∈ sortI ns → n ∈ ns := fun n hn => sortI_mem.mp hn
    rw [h] at mem
    simp only [List.pairwise_cons] at h2
    exact ⟨a, b, c, d, rfl, h2.1 b (by simp), h2.2.1 c (by simp), h2.2.2.1 d (by simp), mem a (by simp), mem b (by simp), mem c (by simp), mem d (by simp)⟩
/-- a range of numbers -/
def iRange (lo hi : Int) : List Int := (List.range (hi - lo).toNat).map fun k => lo + (k : Nat)
theorem rangeD_i (lo hi : Int) : rangeD lo hi = (iRange lo hi).map PyData.int := by
  unfold rangeD iRange
  rw [List.map_map]
  rfl
theorem iRange_mem {lo hi i : Int} : i ∈ iRange lo hi ↔ lo ≤ i ∧ i < hi := by
  unfold iRange
  rw [List.mem_map]
  constructor
  · rintro ⟨k, hk, rfl⟩
    rw [List.mem_range] at hk
    omega
  · rintro ⟨h1, h2⟩
    exact ⟨(i - lo).toNat, List.mem_range.mpr (by omega), by omega⟩
theorem iRange_len (lo hi : Int) : (iRange lo hi).length = (hi - lo).toNat := by simp [iRange]
end L3

/-! L3U: dicts, the list turned about, while. -/
namespace L3
open PySem PySem.Spec PyProof.Rows L2
/-! ### a store at a key -/
def putKD (kvs : List (PyData × PyData)) (k : Key) (d : PyData) : List (PyData × PyData) :=
  if (findK k kvs).isSome = true then kvs.map (fun p => if keyOf p.1 = some k then (p.1, d) else p) else kvs ++ [(keyD k, d)]
theorem zip_mapU {K : PySem.W.Frag} {F : Hp} (k : Key) {v : V} {d : PyData} (hv : Rp K F v d) : ∀ {ks : List (Key × V)} {ds : List PyData}, RpAll K F (ks.map (·.2)) ds →
    ∃ ds', RpAll K F ((ks.map fun kv => if kv.1 = k then (kv.1, v) else kv).map (·.2)) ds' ∧
      ((ks.map fun p => keyD p.1).zip ds).map (fun p => if keyOf p.1 = some k then (p.1, d) else p) = ((ks.map fun kv => if kv.1 = k then (kv.1, v) else kv).map fun p => keyD p.1).zip ds'
  | [], _, h => by cases h; exact ⟨[], .nil, rfl⟩
  | p :: ks, _, h => by
    cases h with
    | @cons _ _ e ds a t =>
      obtain ⟨ds', q1, q2⟩ := zip_mapU k hv t
      by_cases hk : p.1 = k
      · refine ⟨d :: ds', ?_, ?_⟩
        · rw [List.map_cons, if_pos hk, List.map_cons]
          exact .cons hv q1
        · rw [List.map_cons, List.map_cons, List.zip_cons_cons, List.map_cons, if_pos hk, List.map_cons, List.zip_cons_cons, q2]
          rw [if_pos (by rw [← hk]; exact keyOf_keyD _)]
      · refine ⟨e :: ds', ?_, ?_⟩
        · rw [List.map_cons, if_neg hk, List.map_cons]
          exact .cons a q1
        · rw [List.map_cons, List.map_cons, List.zip_cons_cons, List.map_cons, if_neg hk, List.map_cons, List.zip_cons_cons, q2]
          rw [if_neg (fun z => hk (Option.some.inj ((keyOf_keyD p.1).symm.trans z)))]
theorem zip_snoc {K : PySem.W.Frag} {F : Hp} {ks : List (Key × V)} {ds : List PyData} (h : RpAll K F (ks.map (·.2)) ds) (k : Key) (v : V) (d : PyData) : ((ks ++ [(k, v)]).map fun p => keyD p.1).zip (ds ++ [d]) = (ks.map fun p => keyD p.1).zip ds ++ [(keyD k, d)] := by
  rw [List.map_append, List.zip_append (by rw [List.length_map, ← h.length, List.length_map])]
  rfl
theorem put_rel {K : PySem.W.Frag} {F : Hp} (k : Key) {v : V} {d : PyData} (hv : Rp K F v d) {ks : List (Key × V)} {ds : List PyData} (h : RpAll K F (ks.map (·.2)) ds) :
    ∃ ds', RpAll K F ((putK ks k v).map (·.2)) ds' ∧ putKD ((ks.map fun p => keyD p.1).zip ds) k d = ((putK ks k v).map fun p => keyD p.1).zip ds' := by
  unfold putK putKD
  rw [valV_any]
  rcases find_val k h with ⟨q1, q2⟩ | ⟨v', d', q1, q2, _⟩
  · rw [q1, q2, if_neg (by simp), if_neg (by simp)]
    exact ⟨ds ++ [d], by rw [List.map_append]; exact h.append (.cons hv .nil), (zip_snoc h k v d).symm⟩
  · rw [q1, q2, if_pos (show (some v').isSome = true from rfl), if_pos (show (some d').isSome = true from rfl)]
    exact zip_mapU k hv h
def ownK (env : MEnv) (i : Nat) : Option (SV × List (PyData × PyData)) := (env[i]?).bind fun x => match x with
  | .own (.dict ds) => some (x, ds)
  | .ref (.dict ds) => some (x, ds)
  | _ => none
theorem ownK_some {env : MEnv} {i : Nat} {x : SV} {ds : List (PyData × PyData)} (h : ownK env i = some (x, ds)) : env[i]? = some x ∧ x.isOwn = some (.dict ds) := by
  obtain ⟨y, e, h⟩ := bind_some h
  split at h
  · cases h; exact ⟨e, rfl⟩
  · cases h; exact ⟨e, rfl⟩
  · cases h
/-- o[i] = e, the slot o holds an owned dict -/
def sSetKey (o : Nat) (mi me : ME) : MS := fun env => (me env).bind fun p => (ownK p.1 o).bind fun _ => (mi p.1).bind fun q => (q.2.view q.1).bind fun kd => (keyOf kd).bind fun k => (p.2.fix q.1).bind fun s => (ownK s.1 o).bind fun w =>
  if flatKs w.2 = true ∧ w.2.length < lineN then some (.nx (s.1.set o (w.1.put (.dict (putKD w.2 k s.2))))) else none
section
variable {X : Cx} {oe ie e : Expr} {o : Nat} {mi me : ME} {pos spos apos cpos : Pos}
theorem own_dict_at {K : PySem.W.Frag} {F H : Hp} {a : Addr} {kvs : List (PyData × PyData)} (c : OwnC K F H a (.dict kvs)) (hf : flatKs kvs = true) (sm : Same F H) : ∃ (ks : List (Key × V)) (ds : List PyData), H a = some (.dK ks) ∧ RpAll K F (ks.map (·.2)) ds ∧ kvs = (ks.map fun p => keyD p.1).zip ds := by
  rcases c with ⟨ks, ds, q, r, z⟩ | ⟨ks, ds, q, r, n, z⟩ | ⟨vs, q, n, z⟩
  · exact ⟨ks, ds, q, r, z⟩
  · subst z
    cases ks with
    | nil => exact (n rfl).elim
    | cons p ks =>
      cases r with
      | cons a t => simp [flatKs, keyOf] at hf
  · subst z
    exact (bool_flat n hf).elim
theorem setKey_to {K : PySem.W.Frag} {D : Ends} {σ : L2.St} {H : Hp} (h : tS K (sSetKey o mi me) D σ H) : tAsg (tE K me) (gSub (tVar o) (tE K mi) rSetD) D σ H := by
  obtain ⟨F, env, A, out, em, k⟩ := h
  obtain ⟨⟨env1, r1⟩, e1, em⟩ := bind_some em
  obtain ⟨⟨x0, ds0⟩, e0, em⟩ := bind_some em
  obtain ⟨⟨env2, r2⟩, e2, em⟩ := bind_some em
  obtain ⟨kd, e3, em⟩ := bind_some em
  obtain ⟨key, e7, em⟩ := bind_some em
  obtain ⟨⟨env3, d⟩, e4, em⟩ := bind_some em
  obtain ⟨⟨x, kvs⟩, e5, em⟩ := bind_some em
  split at em
  case isFalse => cases em
  rename_i hc
  cases em
  refine ⟨F, env, A, env1, r1, e1, fun v F1 H1 A1 f1 o1 n1 => ?_⟩
  obtain ⟨g1, g2⟩ := ownK_some e0
  obtain ⟨a, ha, _, _⟩ := A1.own (a := 0) g1 g2
  refine ⟨.ref a, ha, F1, env1, A1, env2, r2, e2, fun u F2 H2 A2 f2 o2 n2 => ?_⟩
  have ku := key_rel (RV.ok.rk o2 A2 e3) e7
  subst ku
  obtain ⟨F3, A3, f3, rd, s3⟩ := fix_one A2 (f1.trans f2) (RV.ok.keep o1 f2) n1 e4
  obtain ⟨g3, g4⟩ := ownK_some e5
  obtain ⟨a', ha', fa', cx⟩ := A3.own (a := 0) g3 g4
  rw [ha] at ha'
  cases ha'
  obtain ⟨ks, ds, hx, rx, ez⟩ := own_dict_at cx hc.1 A3.same
  subst ez
  obtain ⟨ds', q1, q2⟩ := put_rel key rd rx
  have hl : ks.length < sizeLine := by
    have := hc.2
    dsimp only at this
    rw [List.length_zip, List.length_map, ← rx.length, List.length_map, Nat.min_self] at this
    rw [← lineN_eq]
    exact this
  refine ⟨a, upd H2 a (.dK (putK ks key v)), rfl, .k hx hl, ?_⟩
  obtain ⟨A4, f4⟩ := put_own (d' := .dict (putKD ((ks.map fun p => keyD p.1).zip ds) key d)) (o := .dK (putK ks key v)) A3 g3 g4 ha (.inl ⟨putK ks key v, ds', upd_same, q1, q2⟩)
  exact k σ F3 _ A4 (f3.trans f4)
theorem rs_setKey (hu : X.A.units + 65 < cLine) (ho : PE X oe (tVar o)) (hi : PE X ie (tE X.K mi)) (he : PE X e (tE X.K me)) (ha : ∀ v, assign (.Subscript oe ie spos) X.env v = (do
      let ov ← holding [v] (eval oe X.env)
      let iv ← holding [v, ov] (eval ie X.env)
      standAt spos
      holding [v, ov, iv] (setItem ov iv v)
      release [v, ov, iv] []) := by intro _; rfl) (hs : swapsWithSole [.Subscript oe ie spos] e pos.line X.env = pure false := by rfl) (hw : swappedStores [.Subscript oe ie spos] e X.env = pure none := by rfl)
    (h1 : (assignEach [.Subscript oe ie spos] X.env).map (·.2) = [assign (.Subscript oe ie spos) X.env] := by rfl) : PS X (.Assign [.Subscript oe ie spos] e pos) (tS X.K (sSetKey o mi me)) :=
  ps_imp (ps_asg he (pg_sub ho hi (set_dict (by omega)) ha) hs hw h1) fun _ _ _ => setKey_to
end
/-! ### a store at a tuple -/
def putTD (kvs : List (PyData × PyData)) (k : List Key) (d : PyData) : List (PyData × PyData) :=
  if (findT k kvs).isSome = true then kvs.map (fun p => if keyT p.1 = some k then (p.1, d) else p) else kvs ++ [(.tuple (k.map keyD), d)]
theorem zip_mapT {K : PySem.W.Frag} {F : Hp} (k : List Key) {v : V} {d : PyData} (hv : Rp K F v d) : ∀ {ks : List (List Key × V)} {ds : List PyData}, RpAll K F (ks.map (·.2)) ds →
    ∃ ds', RpAll K F ((ks.map fun kv => if kv.1 = k then (kv.1, v) else kv).map (·.2)) ds' ∧
      ((ks.map fun p => PyData.tuple (p.1.map keyD)).zip ds).map (fun p => if keyT p.1 = some k then (p.1, d) else p) = ((ks.map fun kv => if kv.1 = k then (kv.1, v) else kv).map fun p => PyData.tuple (p.1.map keyD)).zip ds'
  | [], _, h => by cases h; exact ⟨[], .nil, rfl⟩
  | p :: ks, _, h => by
    cases h with
    | @cons _ _ e ds a t =>
      obtain ⟨ds', q1, q2⟩ := zip_mapT k hv t
      by_cases hk : p.1 = k
      · refine ⟨d :: ds', ?_, ?_⟩
        · rw [List.map_cons, if_pos hk, List.map_cons]
          exact .cons hv q1
        · rw [List.map_cons, List.map_cons, List.zip_cons_cons, List.map_cons, if_pos hk, List.map_cons, List.zip_cons_cons, q2]
          rw [if_pos (by rw [← hk]; exact keyT_keyD _)]
      · refine ⟨e :: ds', ?_, ?_⟩
        · rw [List.map_cons, if_neg hk, List.map_cons]
          exact .cons a q1
        · rw [List.map_cons, List.map_cons, List.zip_cons_cons, List.map_cons, if_neg hk, List.map_cons, List.zip_cons_cons, q2]
          rw [if_neg (fun z => hk (Option.some.inj ((keyT_keyD p.1).symm.trans z)))]
theorem put_relT {K : PySem.W.Frag} {F : Hp} (k : List Key) {v : V} {d : PyData} (hv : Rp K F v d) {ks : List (List Key × V)} {ds : List PyData} (h : RpAll K F (ks.map (·.2)) ds) :
    ∃ ds', RpAll K F ((putK ks k v).map (·.2)) ds' ∧ putTD ((ks.map fun p => PyData.tuple (p.1.map keyD)).zip ds) k d = ((putK ks k v).map fun p => PyData.tuple (p.1.map keyD)).zip ds' := by
  unfold putK putTD
  rw [valV_any]
  rcases find_valT k h with ⟨q1, q2⟩ | ⟨v', d', q1, q2, _⟩
  · rw [q1, q2, if_neg (by simp), if_neg (by simp)]
    refine ⟨ds ++ [d], by rw [List.map_append]; exact h.append (.cons hv .nil), ?_⟩
    rw [List.map_append, List.zip_append (by rw [List.length_map, ← h.length, List.length_map])]
    rfl
  · rw [q1, q2, if_pos (show (some v').isSome = true from rfl), if_pos (show (some d').isSome = true from rfl)]
    exact zip_mapT k hv h
theorem putK_ne {κ : Type} [DecidableEq κ] {ks : List (κ × V)} {k : κ} {v : V} : putK ks k v ≠ [] := by
  unfold putK
  split
  · rename_i h
    intro z
    have : ks = [] := List.map_eq_nil_iff.mp z
    subst this
    cases h
  · intro z
    simp at z
/-- o[i] = e, the slot o holds an owned dict, i a tuple -/
def sSetKeyT (o : Nat) (mi me : ME) : MS := fun env => (me env).bind fun p => (ownK p.1 o).bind fun _ => (mi p.1).bind fun q => (q.2.view q.1).bind fun kd => (keyT kd).bind fun k => (p.2.fix q.1).bind fun s => (ownK s.1 o).bind fun w =>
  if tupKs w.2 = true ∧ w.2.length < lineN then some (.nx (s.1.set o (w.1.put (.dict (putTD w.2 k s.2))))) else none
def rSetDT : TSet := fun o i v H Q => ∃ a H', o = .ref a ∧ (DPut H a i v H' ∨ (H a = some (.dK []) ∧ DPut (upd H a (.dT [])) a i v H')) ∧ Q H'
section
variable {X : Cx} {oe ie e : Expr} {o : Nat} {mi me : ME} {pos spos apos cpos : Pos}
theorem set_dictT (hu : X.A.units + 1 < cLine) : PSet X rSetDT := by
  intro pins s σ H o i v ov iv u Q I ro ri rv h
  obtain ⟨a, H', eo, g, q⟩ := h
  subst eo
  cases (show ov = Value.ref a from ro)
  rcases g with g | ⟨h0, g⟩
  · exact d_setItem hu I g ri rv fun s' I' => ⟨H', I', q⟩
  · exact d_setItem hu (tagT I h0) g ri rv fun s' I' => ⟨H', I', q⟩
theorem own_dictT_at {K : PySem.W.Frag} {F H : Hp} {a : Addr} {kvs : List (PyData × PyData)} (c : OwnC K F H a (.dict kvs)) (hf : tupKs kvs = true) :
    (H a = some (.dK []) ∧ kvs = []) ∨ ∃ (ks : List (List Key × V)) (ds : List PyData), H a = some (.dT ks) ∧ RpAll K F (ks.map (·.2)) ds ∧ kvs = (ks.map fun p => PyData.tuple (p.1.map keyD)).zip ds := by
  rcases c with ⟨ks, ds, q, r, z⟩ | ⟨ks, ds, q, r, n, z⟩ | ⟨vs, q, n, z⟩
  · subst z
    cases ks with
    | nil => exact .inl ⟨q, rfl⟩
    | cons p ks =>
      cases r with
      | cons a t =>
        rw [List.map_cons, List.zip_cons_cons, tupKs, List.all_cons, Bool.and_eq_true] at hf
        have z1 := hf.1
        obtain ⟨p1, p2⟩ := p
        cases p1 <;> cases z1
  · exact .inr ⟨ks, ds, q, r, z⟩
  · subst z
    exact (bool_tup n hf).elim
theorem setKeyT_to {K : PySem.W.Frag} {D : Ends} {σ : L2.St} {H : Hp} (h : tS K (sSetKeyT o mi me) D σ H) : tAsg (tE K me) (gSub (tVar o) (tE K mi) rSetDT) D σ H := by
  obtain ⟨F, env, A, out, em, k⟩ := h
  obtain ⟨⟨env1, r1⟩, e1, em⟩ := bind_some em
  obtain ⟨⟨x0, ds0⟩, e0, em⟩ := bind_some em
  obtain ⟨⟨env2, r2⟩, e2, em⟩ := bind_some em
  obtain ⟨kd, e3, em⟩ := bind_some em
  obtain ⟨key, e7, em⟩ := bind_some em
  obtain ⟨⟨env3, d⟩, e4, em⟩ := bind_some em
  obtain ⟨⟨x, kvs⟩, e5, em⟩ := bind_some em
  split at em
  case isFalse => cases em
  rename_i hc
  cases em
  refine ⟨F, env, A, env1, r1, e1, fun v F1 H1 A1 f1 o1 n1 => ?_⟩
  obtain ⟨g1, g2⟩ := ownK_some e0
  obtain ⟨a, ha, _, _⟩ := A1.own (a := 0) g1 g2
  refine ⟨.ref a, ha, F1, env1, A1, env2, r2, e2, fun u F2 H2 A2 f2 o2 n2 => ?_⟩
  have hkd : ∃ ts, kd = .tuple ts ∧ keysOf ts = some key := by
    unfold keyT at e7
    split at e7
    · exact ⟨_, rfl, e7⟩
    · cases e7
  obtain ⟨ts, rfl, e8⟩ := hkd
  obtain ⟨b, rfl, hb⟩ := keyT_rel (RV.ok.rk o2 A2 e3) A2.same e8
  obtain ⟨F3, A3, f3, rd, s3⟩ := fix_one A2 (f1.trans f2) (RV.ok.keep o1 f2) n1 e4
  obtain ⟨g3, g4⟩ := ownK_some e5
  obtain ⟨a', ha', fa', cx⟩ := A3.own (a := 0) g3 g4
  rw [ha] at ha'
  cases ha'
  have hl' := hc.2
  dsimp only at hl'
  rcases own_dictT_at cx hc.1 with ⟨hx, rfl⟩ | ⟨ks, ds, hx, rx, rfl⟩
  · skip
    have hab : b ≠ a := fun z => by subst z; rw [hx] at hb; cases hb
    obtain ⟨ds', q1, q2⟩ := put_relT key rd (ks := []) (ds := []) .nil
    obtain ⟨A4, f4⟩ := put_own (d' := .dict (putTD [] key d)) (o := .dT (putK [] key v)) A3 g3 g4 ha (.inr (.inl ⟨putK [] key v, ds', upd_same, q1, putK_ne, q2⟩))
    refine ⟨a, _, rfl, .inr ⟨hx, .t upd_same (by rw [upd_ne hab]; exact hb) (by rw [← lineN_eq]; exact hl')⟩, ?_⟩
    have eH : upd (upd H2 a (.dT [])) a (.dT (putK [] key v)) = upd H2 a (.dT (putK [] key v)) := by
      funext c
      by_cases hcc : c = a
      · subst hcc; rw [upd_same, upd_same]
      · rw [upd_ne hcc, upd_ne hcc, upd_ne hcc]
    rw [eH]
    exact k σ F3 _ A4 (f3.trans f4)
  · obtain ⟨ds', q1, q2⟩ := put_relT key rd rx
    have hl : ks.length < sizeLine := by
      rw [List.length_zip, List.length_map, ← rx.length, List.length_map, Nat.min_self] at hl'
      rw [← lineN_eq]
      exact hl'
    refine ⟨a, upd H2 a (.dT (putK ks key v)), rfl, .inl (.t hx hb hl), ?_⟩
    obtain ⟨A4, f4⟩ := put_own (d' := .dict (putTD ((ks.map fun p => PyData.tuple (p.1.map keyD)).zip ds) key d)) (o := .dT (putK ks key v)) A3 g3 g4 ha (.inr (.inl ⟨putK ks key v, ds', upd_same, q1, putK_ne, q2⟩))
    exact k σ F3 _ A4 (f3.trans f4)
theorem rs_setKeyT (hu : X.A.units + 65 < cLine) (ho : PE X oe (tVar o)) (hi : PE X ie (tE X.K mi)) (he : PE X e (tE X.K me)) (ha : ∀ v, assign (.Subscript oe ie spos) X.env v = (do
      let ov ← holding [v] (eval oe X.env)
      let iv ← holding [v, ov] (eval ie X.env)
      standAt spos
      holding [v, ov, iv] (setItem ov iv v)
      release [v, ov, iv] []) := by intro _; rfl) (hs : swapsWithSole [.Subscript oe ie spos] e pos.line X.env = pure false := by rfl) (hw : swappedStores [.Subscript oe ie spos] e X.env = pure none := by rfl)
    (h1 : (assignEach [.Subscript oe ie spos] X.env).map (·.2) = [assign (.Subscript oe ie spos) X.env] := by rfl) : PS X (.Assign [.Subscript oe ie spos] e pos) (tS X.K (sSetKeyT o mi me)) :=
  ps_imp (ps_asg he (pg_sub ho hi (set_dictT (by omega)) ha) hs hw h1) fun _ _ _ => setKeyT_to
end
/-! ### get -/
def dictOf : PyData → Option (List (PyData × PyData))
  | .dict kvs => if flatKs kvs = true then some kvs else none
  | _ => none
theorem dictOf_some {d : PyData} {kvs : List (PyData × PyData)} (h : dictOf d = some kvs) : d = .dict kvs ∧ flatKs kvs = true := by
  unfold dictOf at h
  split at h
  · split at h
    · cases h
      rename_i hz
      exact ⟨rfl, hz⟩
    · cases h
  · cases h
def eGet1 (md mk : ME) : ME := fun env => (md env).bind fun p => (p.2.view p.1).bind fun d0 => (dictOf d0).bind fun _ => (mk p.1).bind fun q => (p.2.view q.1).bind fun d => (dictOf d).bind fun kvs => (q.2.view q.1).bind fun kd => (keyOf kd).bind fun k => some (q.1, .fz ((findK k kvs).getD .none))
section
variable {X : Cx} {oe ie e f : Expr} {o : Nat} {md mk mx : ME} {pos spos apos cpos : Pos}
theorem get1_to {K : PySem.W.Frag} {σ : L2.St} {H : Hp} {Q : VK} (h : tE K (eGet1 md mk) σ H Q) : tDGet1 (tE K md) (tE K mk) σ H Q := by
  obtain ⟨F, env, A, env', r, em, k⟩ := h
  obtain ⟨⟨env1, r1⟩, e1, em⟩ := bind_some em
  obtain ⟨d0, e2, em⟩ := bind_some em
  obtain ⟨kvs0, e3, em⟩ := bind_some em
  obtain ⟨⟨env2, r2⟩, e4, em⟩ := bind_some em
  obtain ⟨d, e5, em⟩ := bind_some em
  obtain ⟨kvs, e6, em⟩ := bind_some em
  obtain ⟨kd, e7, em⟩ := bind_some em
  obtain ⟨key, e8, em⟩ := bind_some em
  cases em
  refine ⟨F, env, A, env1, r1, e1, fun v F1 H1 A1 f1 o1 n1 => ?_⟩
  obtain ⟨rfl, z3⟩ := dictOf_some e3
  obtain ⟨rfl, z6⟩ := dictOf_some e6
  obtain ⟨a, ks0, ds0, rfl, h1, _, _⟩ := dict_at (RV.ok.rk o1 A1 e2) A1.same z3
  refine ⟨a, rfl, .inl ⟨ks0, h1⟩, F1, env1, A1, env2, r2, e4, fun u F2 H2 A2 f2 o2 n2 => ?_⟩
  obtain ⟨a', ks, ds, ea, h3, h4, h5⟩ := dict_at (RV.ok.rk (RV.ok.keep o1 f2) A2 e5) A2.same z6
  cases ea
  subst h5
  have ku := key_rel (RV.ok.rk o2 A2 e7) e8
  subst ku
  refine ⟨valV ks key, .inl ⟨ks, key, h3, rfl, rfl⟩, ?_⟩
  rcases find_val key h4 with ⟨q1, q2⟩ | ⟨v', d2, q1, q2, q3⟩
  · rw [q1]
    rw [q2] at k
    exact k .non F2 H2 A2 (f1.trans f2) Rp.non trivial
  · rw [q1]
    rw [q2] at k
    exact k v' F2 H2 A2 (f1.trans f2) q3 trivial
theorem re_get1 (hu : X.A.units + 65 < cLine) (ho : PE X oe (tE X.K md)) (he : PE X e (tE X.K mk)) (m : M1 X oe "get" apos e cpos) : PE X (.Call (.Attribute oe "get" apos) [e] [] cpos) (tE X.K (eGet1 md mk)) :=
  pe_imp (pe_dget1 (by omega) ho he m) fun _ _ _ => get1_to
def eGet2 (md mk mx : ME) : ME := fun env => (md env).bind fun p => (p.2.view p.1).bind fun d0 => (dictOf d0).bind fun _ => (mk p.1).bind fun q => (mx q.1).bind fun t => (t.2.fix t.1).bind fun z => (p.2.view z.1).bind fun d => (dictOf d).bind fun kvs => (q.2.view z.1).bind fun kd => (keyOf kd).bind fun k => some (z.1, .fz ((findK k kvs).getD z.2))
theorem get2_to {K : PySem.W.Frag} {σ : L2.St} {H : Hp} {Q : VK} (h : tE K (eGet2 md mk mx) σ H Q) : tDGet2 (tE K md) (tE K mk) (tE K mx) σ H Q := by
  obtain ⟨F, env, A, env', r, em, k⟩ := h
  obtain ⟨⟨env1, r1⟩, e1, em⟩ := bind_some em
  obtain ⟨d0, e2, em⟩ := bind_some em
  obtain ⟨kvs0, e3, em⟩ := bind_some em
  obtain ⟨⟨env2, r2⟩, e4, em⟩ := bind_some em
  obtain ⟨⟨env3, r3⟩, e9, em⟩ := bind_some em
  obtain ⟨⟨env4, z⟩, e10, em⟩ := bind_some em
  obtain ⟨d, e5, em⟩ := bind_some em
  obtain ⟨kvs, e6, em⟩ := bind_some em
  obtain ⟨kd, e7, em⟩ := bind_some em
  obtain ⟨key, e8, em⟩ := bind_some em
  cases em
  refine ⟨F, env, A, env1, r1, e1, fun v F1 H1 A1 f1 o1 n1 => ?_⟩
  obtain ⟨rfl, z3⟩ := dictOf_some e3
  obtain ⟨rfl, z6⟩ := dictOf_some e6
  obtain ⟨a, ks0, ds0, rfl, h1, _, _⟩ := dict_at (RV.ok.rk o1 A1 e2) A1.same z3
  refine ⟨a, rfl, .inl ⟨ks0, h1⟩, F1, env1, A1, env2, r2, e4, fun u F2 H2 A2 f2 o2 n2 => ⟨F2, env2, A2, _, _, e9, fun t F3 H3 A3 f3 o3 n3 => ?_⟩⟩
  obtain ⟨F4, A4, f4, rd, s4⟩ := fix_one A3 f3 o3 n3 e10
  obtain ⟨a', ks, ds, ea, h3, h4, h5⟩ := dict_at (RV.ok.rk (RV.ok.keep (RV.ok.keep o1 f2) f4) A4 e5) A4.same z6
  cases ea
  subst h5
  have ku := key_rel (RV.ok.rk (RV.ok.keep o2 f4) A4 e7) e8
  subst ku
  refine ⟨valV ks key, .inl ⟨ks, key, h3, rfl, rfl⟩, ?_⟩
  rcases find_val key h4 with ⟨q1, q2⟩ | ⟨v', d2, q1, q2, q3⟩
  · rw [q1]
    rw [q2] at k
    exact k t F4 H3 A4 ((f1.trans f2).trans f4) rd trivial
  · rw [q1]
    rw [q2] at k
    exact k v' F4 H3 A4 ((f1.trans f2).trans f4) q3 trivial
theorem re_get2 (hu : X.A.units + 65 < cLine) (ho : PE X oe (tE X.K md)) (he : PE X e (tE X.K mk)) (hf : PE X f (tE X.K mx)) (m : M2 X oe "get" apos e f cpos) : PE X (.Call (.Attribute oe "get" apos) [e, f] [] cpos) (tE X.K (eGet2 md mk mx)) :=
  pe_imp (pe_dget2 (by omega) ho he hf m) fun _ _ _ => get2_to
end
/-! ### dict(list of pairs) -/
def pairsOf : List PyData → Option (List Key × List PyData)
  | [] => some ([], [])
  | .tuple [k, v] :: ds => (keyOf k).bind fun k => (pairsOf ds).bind fun q => some (k :: q.1, v :: q.2)
  | _ => none
def dictPD : List PyData → Option RV
  | [.list ds] => (pairsOf ds).bind fun q => if q.1.Nodup then some (.own (.dict ((q.1.map keyD).zip q.2))) else none
  | _ => none
theorem pairs_rel {K : PySem.W.Frag} {F H : Hp} (sm : Same F H) : ∀ {ds : List PyData} {xs : List V} {ks : List Key} {vs : List PyData}, RpAll K F xs ds → pairsOf ds = some (ks, vs) →
    ∃ (ps : List Addr) (kvs : List (Key × V)), xs = ps.map V.ref ∧ Paired (fun p kv => SqT K H p [kV kv.1, kv.2]) ps kvs ∧ kvs.map (·.1) = ks ∧ RpAll K F (kvs.map (·.2)) vs
  | [], _, _, _, h, e => by cases h; cases e; exact ⟨[], [], rfl, .nil, rfl, .nil⟩
  | .tuple [k, v] :: ds, _, _, _, h, e => by
    obtain ⟨key, e1, e⟩ := bind_some e
    obtain ⟨⟨ks', vs'⟩, e2, e⟩ := bind_some e
    cases e
    cases h with
    | cons a t =>
      obtain ⟨ps, kvs, q1, q2, q3, q4⟩ := pairs_rel sm t e2
      cases a with
      | tup hq hr =>
        cases hr with
        | cons ra hr =>
          cases hr with
          | cons rb hr =>
            cases hr
            have ka := key_rel (K := K) (F := F) (H := H) (.inl ra) e1
            subst ka
            exact ⟨_ :: ps, (key, _) :: kvs, by rw [q1]; rfl, .cons (SqT.of (sm _ _ hq)) q2, by rw [List.map_cons, q3], .cons rb q4⟩
  | .tuple [] :: _, _, _, _, _, e => by cases e
  | .tuple [_] :: _, _, _, _, _, e => by cases e
  | .tuple (_ :: _ :: _ :: _) :: _, _, _, _, _, e => by cases e
  | .none :: _, _, _, _, _, e => by cases e
  | .bool _ :: _, _, _, _, _, e => by cases e
  | .int _ :: _, _, _, _, _, e => by cases e
  | .str _ :: _, _, _, _, _, e => by cases e
  | .list _ :: _, _, _, _, _, e => by cases e
  | .dict _ :: _, _, _, _, _, e => by cases e
theorem c_dictP {X : Cx} (hc : X.calm = true) : CallR X (.type "dict") (rCall X.K dictPD) := by
  intro pins s σ H xs us Q I r ⟨F, ds, rv, sm, kx, hf, g⟩
  unfold dictPD at hf
  split at hf
  case h_2 => cases hf
  obtain ⟨⟨ks, vs⟩, e1, hf⟩ := bind_some hf
  split at hf
  case isFalse => cases hf
  rename_i hn
  cases hf
  obtain ⟨v, rfl, rk⟩ := rk1 kx
  obtain ⟨a, ys, rfl, q, rp⟩ := rk.lst sm
  obtain ⟨ps, kvs, q1, q2, q3, q4⟩ := pairs_rel sm rp e1
  subst q1
  refine call_dictP hc pins s σ H _ us Q I r ⟨a, ps, kvs, rfl, q, q2, fun p hp => ?_⟩
  have hn' : ((([] : List (Key × V)) ++ kvs).map (·.1)).Nodup := by rw [List.nil_append, q3]; exact hn
  rw [merge_fresh kvs [] hn', List.nil_append]
  have sH : Same H (upd H p (.dK kvs)) := fun b o h => by rw [upd_ne (ne_of_none h hp)]; exact h
  have fp := sm.free hp
  exact g (.ref p) F _ (Same.refl F) sH (sm.trans sH) (fun _ _ h => .inl h) ⟨p, rfl, hp, fp, .inl ⟨kvs, vs, upd_same, q4, by rw [← q3, List.map_map]; rfl⟩⟩
end L3

/-! L3V: steps of dicts, of while, the list turned about. -/
namespace L3
open PySem PySem.Spec PyProof.Rows L2
section
variable {X : Cx} {e : Expr} {m : ME} {pos : Pos}
/-! a tuple turned about -/
theorem fm_congr {α β : Type} {f g : α → Option β} : ∀ {l : List α}, (∀ x ∈ l, f x = g x) → l.filterMap f = l.filterMap g
  | [], _ => rfl
  | a :: l, h => by rw [List.filterMap_cons, List.filterMap_cons, h a List.mem_cons_self, fm_congr fun x hx => h x (List.mem_cons_of_mem _ hx)]
theorem rev_pick (xs : Array Value) : ((List.range xs.size).filterMap fun (k : Nat) => xs[(((xs.size : Int) - 1) + (k : Int) * (-1)).toNat]?).toArray = xs.toList.reverse.toArray := by
  have h := HT.pick_gen xs.toList.reverse.toArray 0 xs.size
  have e2 : (List.drop 0 xs.toList.reverse).take xs.size = xs.toList.reverse := by
    rw [List.drop_zero]
    exact List.take_of_length_le (by simp)
  rw [List.toList_toArray, e2] at h
  rw [← h]
  refine congrArg List.toArray (fm_congr fun k hk => ?_)
  have hk := List.mem_range.mp hk
  have e3 : (((xs.size : Int) - 1) + (k : Int) * (-1)).toNat = xs.size - 1 - k := by omega
  have e4 : (((0 : Nat) : Int) + (k : Int) * 1).toNat = k := by omega
  have e5 := List.getElem?_reverse (l := xs.toList) (i := k) (by simpa using hk)
  rw [Array.length_toList] at e5
  rw [e3, e4]
  simpa using e5.symm
section
variable {prog : Program} {w : World} {A : Around} {E : Value → Shared → Prop} {s : Shared}
theorem applied_rev {sl : Addr} {vl vu vs : Value} {n : Nat} {Q : Int × Int × Nat → Shared → Prop} (hs : s.heap.IsSliceOf sl vl vu vs) (pl : IsPart vl none) (pu : IsPart vu none) (ps : IsPart vs (some (-1)))
    (h : Q ((n : Int) - 1, -1, n) s) : wpAny (model prog w) A (Builtin.Slice.sliceApplied (.ref sl) (pure (n : Int))) Q E s := by
  obtain ⟨ob, hob, _, hd⟩ := id hs
  unfold Builtin.Slice.sliceApplied Builtin.Slice.sliceFields
  refine wpAny_bind (wpAny_bind (wpAny_field hob hd (x := vl) rfl (wpAny_bind (wpAny_field hob hd (x := vu) rfl (wpAny_bind (wpAny_field hob hd (x := vs) rfl (wpAny_pure ?_)))))))
  refine wpAny_bind (HT.slicePart_ ps ?_)
  show wpAny _ _ (if ((-1 : Int) == 0) = true then _ else _) _ _ s
  rw [if_neg (by decide)]
  refine wpAny_bind (HT.slicePart_ pl (wpAny_bind (HT.slicePart_ pu (wpAny_bind (wpAny_pure ?_)))))
  show wpAny _ _ (pure ((n : Int) - 1, (-1 : Int), Builtin.Slice.slicePlaces ((n : Int) - 1) (-1) (-1))) _ _ s
  have e : Builtin.Slice.slicePlaces ((n : Int) - 1) (-1) (-1) = n := by
    unfold Builtin.Slice.slicePlaces
    rw [if_neg (by decide)]
    split
    · rw [show (-(-1) : Int) = 1 by decide, Int.ediv_one]; omega
    · omega
  rw [e]
  exact wpAny_pure h
theorem getTup_rev {t sl : Addr} {its : Array Value} {vl vu vs : Value} {Q : Value → Shared → Prop} (ht : IsTup s.heap t its) (hs : s.heap.IsSliceOf sl vl vu vs) (pl : IsPart vl none) (pu : IsPart vu none) (ps : IsPart vs (some (-1)))
    (h : Q (.ref s.heap.objs.size) { s with heap := s.heap.push { cls := .type "tuple", data := .seq its.toList.reverse.toArray } }) (hsz : its.size ≤ sizeLine) : wpAny (model prog w) A (getItem (.ref t) (.ref sl)) Q E s := by
  have hk : sizeOk (.seq its.toList.reverse.toArray) := by
    show its.toList.reverse.toArray.size ≤ sizeLine
    simpa using hsz
  obtain ⟨ob, hob, hcl, _⟩ := id hs
  have hT : s.TypeIs (.ref sl) "slice" := ⟨ob, hob, hcl⟩
  unfold getItem
  (try with_reducible refine wpAny_holding ?_); (first | refine wpAny_bind (wpAny_pure ?_) | skip)
  refine wpAny_bind (wpAny_sequenceKey ht.typeIs (by decide) (wpAny_bind (wpAny_callSpecial?_slot (name := Str.ofString "__getitem__") ht.typeIs PyProof.Rows.slot_tuple_getitem (wpAny_call_entry PyProof.Rows.slot_tuple_getitem ht.typeIs PyProof.Rows.entry_tuple_getitem ?_ (PyProof.Rows.args_tuple_getitem _ _)))))
  show wpAny _ _ (Builtin.Tuple.tupleItemsOf (.ref t) >>= _) _ _ s
  refine wpAny_bind (PyProof.Rows.tupleItemsOf_ ht (wpAny_bind (wpAny_typeOf hT ?_)))
  rw [if_pos (by decide)]
  refine wpAny_bind (applied_rev hs pl pu ps ?_)
  have hno : ¬ ((((its.size : Int) - 1) == 0 && (-1 : Int) == 1 && its.size == its.size) = true) := by simp
  show wpAny _ _ (if (((its.size : Int) - 1) == 0 && (-1 : Int) == 1 && its.size == its.size) = true then _ else _) _ _ s
  rw [if_neg hno, rev_pick]
  first
    | exact wpAny_bind (m := Builtin.Tuple.tupleExact _) (wpAny_newObj_type (wpAny_pure ⟨_, rfl, wpAny_pure h⟩) hk)
    | exact wpAny_bind (m := Builtin.Tuple.tupleExact _) (wpAny_newObj_type (wpAny_bind (wpAny_pure (wpAny_pure ⟨_, rfl, wpAny_pure h⟩))) hk)
    | exact wpAny_bind (wpAny_bind (m := Builtin.Tuple.tupleExact _) (wpAny_newObj_type (wpAny_pure (wpAny_pure ⟨_, rfl, wpAny_pure h⟩)) hk))
    | exact wpAny_bind (wpAny_bind (m := Builtin.Tuple.tupleExact _) (wpAny_newObj_type (wpAny_pure ⟨_, rfl, wpAny_pure h⟩) hk))
end
def tRevT (K : PySem.W.Frag) (te : TE) : TE := fun σ H Q => te σ H fun x H1 => (∃ a xs, x = .ref a ∧ SqL K H1 a xs ∧ ∀ p, H1 p = none → Q (.ref p) (upd H1 p (.lst xs.reverse))) ∨
  (∃ a xs, x = .ref a ∧ SqT K H1 a xs ∧ ∀ p, H1 p = none → Q (.ref p) (upd H1 p (.tup xs.reverse)))
theorem pe_revT {te : TE} {k : Nat} {p1 p2 p3 : Pos} (he : PE X e te) : PE X (.Subscript e (.Slice none none (some (.UnaryOp .USub (.Constant (.int 1) k p1) p2)) p3) pos) (tRevT X.K te) := by
  refine ⟨fun pins s σ H Q I h => Subscript_ (thn (he.run pins s σ H _ I h) fun v s1 ⟨x, H1, I1, r1, q1⟩ => ?_)⟩
  have hst : PO X (some (.UnaryOp .USub (.Constant (.int 1) k p1) p2)) (tPart (tUn (rU fun i => .int (-i)) (tC (.int 1)))) := po_some (pe_un un_neg pe_int)
  refine wpAny_Slice (thn (po_none.run pins s1 σ H1 (fun o H2 => o = none ∧ H2 = H1) I1 ⟨rfl, rfl⟩) fun vl s2 ⟨l, H2, I2, pl, el, e2⟩ => ?_)
  subst el e2
  refine thn (po_none.run pins s2 σ H2 (fun o H3 => o = none ∧ H3 = H2) I2 ⟨rfl, rfl⟩) fun vu s3 ⟨u, H3, I3, pu, eu, e3⟩ => ?_
  subst eu e3
  refine thn (hst.run pins s3 σ H3 (fun o H4 => o = some (-1) ∧ H4 = H3) I3 ⟨1, rfl, -1, rfl, rfl, rfl⟩) fun vs s4 ⟨o, H4, I4, ps, eo, e4⟩ => ?_
  subst eo e4
  have I5 : Inv X pins σ H4 { s4 with heap := s4.heap.push { cls := .type "slice", data := .fields #[vl, vu, vs] } } := I4.kept (t' := s4.toks) fun b ob q => Heap.get?_push_of_some _ q
  rcases q1 with ⟨a, xs, ex, hx, q⟩ | ⟨a, xs, ex, hx, q⟩
  · subst ex
    cases r1
    obtain ⟨its, r, ht, hz⟩ := I5.list hx
    have hlen := r.length
    show wpAny (model X.prog X.w) X.A (subscriptTail e (.Slice none none (some (.UnaryOp .USub (.Constant (.int 1) k p1) p2)) p3) (.ref a) (.ref s4.heap.objs.size)) (EP X pins σ Q) X.xe _
    refine tail_any (ops := [.ref a, .ref s4.heap.objs.size]) ht.isList.typeIs (PySem.slot_list_getitem.lookup) (wpAny_getItem_list_slice ht.isList (Heap.IsSliceOf.new _ vl vu vs) pl pu ps (by decide) ?_ (by rw [List.size_toArray]; omega)) (by with_unfolding_all rfl)
    rw [PySem.W.krv_pick]
    exact ⟨.ref _, _, I5.laid (t' := s4.toks) (o := .lst xs.reverse) (fun b ob q => Heap.get?_push_of_some _ q) (Nat.le_refl _) ⟨by rw [List.length_reverse]; exact hz, _, 0, r.reverse, Heap.get?_push_size _ rfl⟩, rfl, q _ (I5.hok.fresh (Nat.le_refl _))⟩
  · subst ex
    cases r1
    obtain ⟨its, r, ht, hz⟩ := I5.tuple hx
    have hlen := r.length
    show wpAny (model X.prog X.w) X.A (subscriptTail e (.Slice none none (some (.UnaryOp .USub (.Constant (.int 1) k p1) p2)) p3) (.ref a) (.ref s4.heap.objs.size)) (EP X pins σ Q) X.xe _
    refine tail_any (ops := [.ref a, .ref s4.heap.objs.size]) ht.typeIs (PyProof.Rows.slot_tuple_getitem.lookup) (getTup_rev ht (Heap.IsSliceOf.new _ vl vu vs) pl pu ps ?_ (by rw [List.size_toArray]; omega)) (by with_unfolding_all rfl)
    exact ⟨.ref _, _, I5.laid (t' := s4.toks) (o := .tup xs.reverse) (fun b ob q => Heap.get?_push_of_some _ q) (Nat.le_refl _) ⟨by rw [List.length_reverse]; exact hz, _, r.reverse, IsTup.new _ _⟩, rfl, q _ (I5.hok.fresh (Nat.le_refl _))⟩
/-- m[::-1] of a list or a tuple -/
def eRev (m : ME) : ME := fun env => (m env).bind fun p => (p.2.view p.1).bind fun d => match d with
  | .list ds => some (p.1, .own (.list ds.reverse))
  | .tuple ds => some (p.1, .fz (.tuple ds.reverse))
  | _ => none
theorem re_rev {k : Nat} {p1 p2 p3 : Pos} (he : PE X e (tE X.K m)) : PE X (.Subscript e (.Slice none none (some (.UnaryOp .USub (.Constant (.int 1) k p1) p2)) p3) pos) (tE X.K (eRev m)) := by
  refine pe_imp (pe_revT he) fun σ H Q ⟨F, env, A, env', r, em, kk⟩ => ?_
  obtain ⟨⟨env1, r1⟩, e1, em⟩ := bind_some em
  obtain ⟨d, e2, em⟩ := bind_some em
  refine ⟨F, env, A, _, r1, e1, fun v F1 H1 A1 f1 o1 n1 => ?_⟩
  dsimp only at em
  split at em
  · cases em
    obtain ⟨a, xs, rfl, h1, h2⟩ := (RV.ok.rk o1 A1 e2).lst A1.same
    exact .inl ⟨a, xs, rfl, h1, fun p hp => (gives_to A1 f1 kk).newList A1.same h2.reverse hp⟩
  · cases em
    obtain ⟨a, xs, rfl, h1, h2⟩ := (RV.ok.rk o1 A1 e2).tup A1.same
    exact .inr ⟨a, xs, rfl, h1, fun p hp => (gives_to A1 f1 kk).newTup A1.same h2.reverse hp⟩
  · cases em
end
section
variable {e : MEnv} {i o n : Nat} {d kd : PyData} {ds : List PyData} {kvs : List (PyData × PyData)} {x : SV} {r r2 : RV} {b : Bool} {P : Out → Prop} {Pe : MEnv → RV → Prop} {m mi me md mk mx : ME} {k : Key} {t : MT} {body : MS} {z : Str} {j : Int} {J : MEnv → Prop}
def kRev (P : MEnv → RV → Prop) (e : MEnv) : PyData → Prop
  | .list ds => P e (.own (.list ds.reverse))
  | .tuple ds => P e (.fz (.tuple ds.reverse))
  | _ => False
def kRev0 (P : MEnv → RV → Prop) (e : MEnv) (r : RV) : Prop := WV r e (kRev P e)
theorem we_rev : WE (eRev m) e Pe ↔ WE m e (kRev0 Pe) := by
  simp only [WE, WV, eRev, kRev0, wp_bind]
  refine ⟨fun h => Wp.imp h fun p h => Wp.imp h fun d h => ?_, fun h => Wp.imp h fun p h => Wp.imp h fun d h => ?_⟩
  · cases d <;> first | exact (wp_some.mp h :) | exact (wp_none.mp h).elim
  · cases d <;> first | exact wp_some.mpr h | exact h.elim
theorem kRev0_eq : kRev0 Pe e r ↔ WV r e (kRev Pe e) := Iff.rfl
theorem kRev_l : kRev Pe e (.list ds) ↔ Pe e (.own (.list ds.reverse)) := Iff.rfl
theorem kRev_t : kRev Pe e (.tuple ds) ↔ Pe e (.fz (.tuple ds.reverse)) := Iff.rfl
def WK (e : MEnv) (i : Nat) (P : SV × List (PyData × PyData) → Prop) : Prop := Wp (ownK e i) P
def kOwnK (P : SV × List (PyData × PyData) → Prop) : SV → Prop
  | .own (.dict ds) => P (.own (.dict ds), ds)
  | .ref (.dict ds) => P (.ref (.dict ds), ds)
  | _ => False
theorem wk_eq {Q : SV × List (PyData × PyData) → Prop} : WK e i Q ↔ WX e i (kOwnK Q) := by
  unfold WK WX ownK
  rw [wp_bind]
  refine ⟨fun h => Wp.imp h fun x h => ?_, fun h => Wp.imp h fun x h => ?_⟩
  · cases x with
    | own d => cases d <;> first | exact (wp_some.mp h :) | exact (wp_none.mp h).elim
    | ref d => cases d <;> first | exact (wp_some.mp h :) | exact (wp_none.mp h).elim
    | _ => exact (wp_none.mp h).elim
  · cases x with
    | own d => cases d <;> first | exact wp_some.mpr h | exact h.elim
    | ref d => cases d <;> first | exact wp_some.mpr h | exact h.elim
    | _ => exact h.elim
theorem kOwnK_own {Q : SV × List (PyData × PyData) → Prop} : kOwnK Q (.own (.dict kvs)) ↔ Q (.own (.dict kvs), kvs) := Iff.rfl
theorem kOwnK_ref {Q : SV × List (PyData × PyData) → Prop} : kOwnK Q (.ref (.dict kvs)) ↔ Q (.ref (.dict kvs), kvs) := Iff.rfl
def kSK6 (o : Nat) (k : Key) (d : PyData) (P : Out → Prop) (e : MEnv) (w : SV × List (PyData × PyData)) : Prop := (flatKs w.2 = true ∧ w.2.length < lineN) ∧ P (.nx (e.set o (w.1.put (.dict (putKD w.2 k d)))))
def kSK5 (o : Nat) (k : Key) (P : Out → Prop) (e : MEnv) (d : PyData) : Prop := WK e o (kSK6 o k d P e)
def kSK4 (o : Nat) (r : RV) (P : Out → Prop) (e : MEnv) (kd : PyData) : Prop := ∃ k, keyOf kd = some k ∧ WF r e (kSK5 o k P)
def kSK3 (o : Nat) (r : RV) (P : Out → Prop) (e : MEnv) (r2 : RV) : Prop := WV r2 e (kSK4 o r P e)
def kSK2 (o : Nat) (mi : ME) (r : RV) (P : Out → Prop) (e : MEnv) (w : SV × List (PyData × PyData)) : Prop := WE mi e (kSK3 o r P)
def kSK1 (o : Nat) (mi : ME) (P : Out → Prop) (e : MEnv) (r : RV) : Prop := WK e o (kSK2 o mi r P e)
theorem ws_setKey : WS (sSetKey o mi me) e P ↔ WE me e (kSK1 o mi P) := by
  simp only [WS, sSetKey, wp_bind, wp_guard, wp_some]
  exact Iff.rfl
theorem kSK1_eq : kSK1 o mi P e r ↔ WK e o (kSK2 o mi r P e) := Iff.rfl
theorem kSK2_eq {w : SV × List (PyData × PyData)} : kSK2 o mi r P e w ↔ WE mi e (kSK3 o r P) := Iff.rfl
theorem kSK3_eq : kSK3 o r P e r2 ↔ WV r2 e (kSK4 o r P e) := Iff.rfl
theorem kSK4_s : kSK4 o r P e (.str z) ↔ WF r e (kSK5 o (.inr z) P) := ⟨fun ⟨_, h1, h2⟩ => by cases h1; exact h2, fun h => ⟨_, rfl, h⟩⟩
theorem kSK4_i : kSK4 o r P e (.int j) ↔ WF r e (kSK5 o (.inl j) P) := ⟨fun ⟨_, h1, h2⟩ => by cases h1; exact h2, fun h => ⟨_, rfl, h⟩⟩
theorem kSK5_eq : kSK5 o k P e d ↔ WK e o (kSK6 o k d P e) := Iff.rfl
theorem kSK6_eq : kSK6 o k d P e (x, kvs) ↔ (flatKs kvs = true ∧ kvs.length < lineN) ∧ P (.nx (e.set o (x.put (.dict (putKD kvs k d))))) := Iff.rfl
def kG5 (kvs : List (PyData × PyData)) (P : MEnv → RV → Prop) (e : MEnv) (kd : PyData) : Prop := ∃ k, keyOf kd = some k ∧ P e (.fz ((findK k kvs).getD .none))
def kG4 (r2 : RV) (P : MEnv → RV → Prop) (e : MEnv) (d : PyData) : Prop := ∃ kvs, dictOf d = some kvs ∧ WV r2 e (kG5 kvs P e)
def kG3 (r : RV) (P : MEnv → RV → Prop) (e : MEnv) (r2 : RV) : Prop := WV r e (kG4 r2 P e)
def kG2 (r : RV) (mk : ME) (P : MEnv → RV → Prop) (e : MEnv) (d : PyData) : Prop := ∃ kvs, dictOf d = some kvs ∧ WE mk e (kG3 r P)
def kG1 (mk : ME) (P : MEnv → RV → Prop) (e : MEnv) (r : RV) : Prop := WV r e (kG2 r mk P e)
theorem we_get1 : WE (eGet1 md mk) e Pe ↔ WE md e (kG1 mk Pe) := by
  simp only [WE, eGet1, wp_bind, wp_some]
  exact Iff.rfl
theorem kG1_eq : kG1 mk Pe e r ↔ WV r e (kG2 r mk Pe e) := Iff.rfl
theorem kG2_d : kG2 r mk Pe e (.dict kvs) ↔ flatKs kvs = true ∧ WE mk e (kG3 r Pe) := by
  constructor
  · rintro ⟨kvs', h1, h2⟩
    obtain ⟨h3, h4⟩ := dictOf_some h1
    exact ⟨by cases h3; exact h4, h2⟩
  · rintro ⟨h1, h2⟩
    exact ⟨kvs, if_pos h1, h2⟩
theorem kG3_eq : kG3 r Pe e r2 ↔ WV r e (kG4 r2 Pe e) := Iff.rfl
theorem kG4_d : kG4 r2 Pe e (.dict kvs) ↔ flatKs kvs = true ∧ WV r2 e (kG5 kvs Pe e) := by
  constructor
  · rintro ⟨kvs', h1, h2⟩
    obtain ⟨h3, h4⟩ := dictOf_some h1
    cases h3
    exact ⟨h4, h2⟩
  · rintro ⟨h1, h2⟩
    exact ⟨kvs, if_pos h1, h2⟩
theorem kG5_s : kG5 kvs Pe e (.str z) ↔ Pe e (.fz ((findK (.inr z) kvs).getD .none)) := ⟨fun ⟨_, h1, h2⟩ => by cases h1; exact h2, fun h => ⟨_, rfl, h⟩⟩
theorem kG5_i : kG5 kvs Pe e (.int j) ↔ Pe e (.fz ((findK (.inl j) kvs).getD .none)) := ⟨fun ⟨_, h1, h2⟩ => by cases h1; exact h2, fun h => ⟨_, rfl, h⟩⟩
def kH5 (kvs : List (PyData × PyData)) (z : PyData) (P : MEnv → RV → Prop) (e : MEnv) (kd : PyData) : Prop := ∃ k, keyOf kd = some k ∧ P e (.fz ((findK k kvs).getD z))
def kH4 (r2 : RV) (z : PyData) (P : MEnv → RV → Prop) (e : MEnv) (d : PyData) : Prop := ∃ kvs, dictOf d = some kvs ∧ WV r2 e (kH5 kvs z P e)
def kH3c (r r2 : RV) (P : MEnv → RV → Prop) (e : MEnv) (z : PyData) : Prop := WV r e (kH4 r2 z P e)
def kH3b (r r2 : RV) (P : MEnv → RV → Prop) (e : MEnv) (r3 : RV) : Prop := WF r3 e (kH3c r r2 P)
def kH3 (r : RV) (mx : ME) (P : MEnv → RV → Prop) (e : MEnv) (r2 : RV) : Prop := WE mx e (kH3b r r2 P)
def kH2 (r : RV) (mk mx : ME) (P : MEnv → RV → Prop) (e : MEnv) (d : PyData) : Prop := ∃ kvs, dictOf d = some kvs ∧ WE mk e (kH3 r mx P)
def kH1 (mk mx : ME) (P : MEnv → RV → Prop) (e : MEnv) (r : RV) : Prop := WV r e (kH2 r mk mx P e)
theorem we_get2 : WE (eGet2 md mk mx) e Pe ↔ WE md e (kH1 mk mx Pe) := by
  simp only [WE, WV, WF, eGet2, kH1, kH3b, kH3c, wp_bind]
  refine ⟨fun h => Wp.imp h fun p h => Wp.imp h fun d h => ?_, fun h => Wp.imp h fun p h => Wp.imp h fun d h => ?_⟩
  · obtain ⟨kvs, h1, h⟩ := h
    refine ⟨kvs, h1, Wp.imp h fun q h => Wp.imp h fun t h => Wp.imp h fun z h => ?_⟩
    obtain ⟨d2, g1, kvs2, g2, kd, g3, k, g4, h⟩ := h
    exact ⟨d2, g1, kvs2, g2, kd, g3, k, g4, (wp_some.mp h :)⟩
  · obtain ⟨kvs, h1, h⟩ := h
    refine ⟨kvs, h1, Wp.imp h fun q h => Wp.imp h fun t h => Wp.imp h fun z h => ?_⟩
    obtain ⟨d2, g1, kvs2, g2, kd, g3, k, g4, h⟩ := h
    exact ⟨d2, g1, kvs2, g2, kd, g3, k, g4, wp_some.mpr h⟩
theorem kH1_eq : kH1 mk mx Pe e r ↔ WV r e (kH2 r mk mx Pe e) := Iff.rfl
theorem kH2_d : kH2 r mk mx Pe e (.dict kvs) ↔ flatKs kvs = true ∧ WE mk e (kH3 r mx Pe) := by
  constructor
  · rintro ⟨kvs', h1, h2⟩
    obtain ⟨h3, h4⟩ := dictOf_some h1
    exact ⟨by cases h3; exact h4, h2⟩
  · rintro ⟨h1, h2⟩
    exact ⟨kvs, if_pos h1, h2⟩
theorem kH3_eq : kH3 r mx Pe e r2 ↔ WE mx e (kH3b r r2 Pe) := Iff.rfl
theorem kH3b_eq {r3 : RV} : kH3b r r2 Pe e r3 ↔ WF r3 e (kH3c r r2 Pe) := Iff.rfl
theorem kH3c_eq : kH3c r r2 Pe e d ↔ WV r e (kH4 r2 d Pe e) := Iff.rfl
theorem kH4_d : kH4 r2 d Pe e (.dict kvs) ↔ flatKs kvs = true ∧ WV r2 e (kH5 kvs d Pe e) := by
  constructor
  · rintro ⟨kvs', h1, h2⟩
    obtain ⟨h3, h4⟩ := dictOf_some h1
    cases h3
    exact ⟨h4, h2⟩
  · rintro ⟨h1, h2⟩
    exact ⟨kvs, if_pos h1, h2⟩
theorem kH5_s : kH5 kvs d Pe e (.str z) ↔ Pe e (.fz ((findK (.inr z) kvs).getD d)) := ⟨fun ⟨_, h1, h2⟩ => by cases h1; exact h2, fun h => ⟨_, rfl, h⟩⟩
theorem kH5_i : kH5 kvs d Pe e (.int j) ↔ Pe e (.fz ((findK (.inl j) kvs).getD d)) := ⟨fun ⟨_, h1, h2⟩ => by cases h1; exact h2, fun h => ⟨_, rfl, h⟩⟩
theorem ixD_ds : ixD (.dict kvs) (.str z) = if flatKs kvs = true then (findK (.inr z) kvs).bind fun d => some (.fz d) else none := rfl
theorem ixD_di : ixD (.dict kvs) (.int j) = if flatKs kvs = true then (findK (.inl j) kvs).bind fun d => some (.fz d) else none := rfl
theorem inD_ds : inD (.str z) (.dict kvs) = if flatKs kvs = true then some (.fz (.bool (findK (.inr z) kvs).isSome)) else none := rfl
theorem inD_di : inD (.int j) (.dict kvs) = if flatKs kvs = true then some (.fz (.bool (findK (.inl j) kvs).isSome)) else none := rfl
theorem notInD_ds : notInD (.str z) (.dict kvs) = if flatKs kvs = true then some (.fz (.bool (!(findK (.inr z) kvs).isSome))) else none := rfl
theorem notInD_di : notInD (.int j) (.dict kvs) = if flatKs kvs = true then some (.fz (.bool (!(findK (.inl j) kvs).isSome))) else none := rfl
theorem dictPD_l : dictPD [.list ds] = (pairsOf ds).bind fun q => if q.1.Nodup then some (.own (.dict ((q.1.map keyD).zip q.2))) else none := rfl
/-- while -/
def kWh (body : MS) (J : MEnv → Prop) (P : Out → Prop) (e : MEnv) (b : Bool) : Prop := if b = true then WS body e (kLoop J P) else P (.nx e)
theorem kWh_t : kWh body J P e true ↔ WS body e (kLoop J P) := by simp [kWh]
theorem kWh_f : kWh body J P e false ↔ P (.nx e) := by simp [kWh]
theorem kWh_i (h : b = true → WS body e (kLoop J P)) (h' : b = false → P (.nx e)) : kWh body J P e b := by
  cases b with
  | true => exact kWh_t.mpr (h rfl)
  | false => exact kWh_f.mpr (h' rfl)
theorem ws_while : WS (sWhile n t body) e P ↔ Wp (whileLoop t body n e) P := Iff.rfl
theorem wwhile_step : Wp (whileLoop t body (n + 1) e) P ↔ WT t e (kWh body (fun e => Wp (whileLoop t body n e) P) P) := by
  simp only [whileLoop, WT, wp_bind, wp_ite']
  refine ⟨fun h => Wp.imp h fun p h => ?_, fun h => Wp.imp h fun p h => ?_⟩
  · unfold kWh
    split
    · rename_i hp
      rw [if_pos hp] at h
      refine Wp.imp (Q := kLoop _ P) h fun o h => ?_
      cases o <;> first | exact h | exact (wp_some.mp h :)
    · rename_i hp
      rw [if_neg hp] at h
      exact (wp_some.mp h :)
  · unfold kWh at h
    split
    · rename_i hp
      rw [if_pos hp] at h
      refine Wp.imp h fun o h => ?_
      cases o <;> first | exact h | exact wp_some.mpr h
    · rename_i hp
      rw [if_neg hp] at h
      exact wp_some.mpr h
/-- by an invariant with a number that falls -/
theorem wwhile (I : Nat → MEnv → Prop) (k : Nat) (h0 : I k e) (hk : k < n) (hs : ∀ k e, I k e → WT t e (kWh body (fun e => ∃ j, j < k ∧ I j e) P)) : Wp (whileLoop t body n e) P := by
  induction n generalizing k e with
  | zero => omega
  | succ n ih =>
    rw [wwhile_step]
    refine WT.imp (hs k e h0) fun e1 b h => ?_
    unfold kWh at h ⊢
    split
    · rename_i hb
      rw [if_pos hb] at h
      refine WS.imp h fun o h => kLoop.imp (fun e2 ⟨j, hj, q⟩ => ih j q (by omega)) h
    · rename_i hb
      rw [if_neg hb] at h
      exact h
end
end L3

/-! L3W: a dict display of one pair, its key a tuple. -/
namespace L3
open PySem PySem.Spec PyProof.Rows L2
section
variable {prog : Program} {w : World} {Kt : Type} [DecidableEq Kt] {knd : HeapKind prog w Kt} {A : Around} {E : Value → Shared → Prop} {s : Shared}
theorem wpAny_Dict_pairsH2 {env : Env} {keys : List (Option Expr)} {values : List Expr} {pos : Pos} {pairs : List (Sem Value × Sem Value)} {Q : Value → Shared → Prop} (hu : knd.room A)
    (hshape : (evalEachOpt keys env).zip ((evalEach values env).map fun v => do let x ← v; standAt pos; pure x) = pairs.map fun p => (some p.1, p.2)) (h0 : pairs ≠ []) (hlen : pairs.length ≤ 15)
    (h : wpAny (model prog w) A (evalPairs pairs) (fun vs s₁ => ∃ ps, CarriesH knd s₁.heap vs ps ∧ s₁.heap.DictOfH knd s.heap.objs.size [] ∧
      ∀ h' tk, h'.DictOfH knd s.heap.objs.size (storedAllH [] ps) → Heap.SameBut s.heap.objs.size s₁.heap h' → Q (.ref s.heap.objs.size) { s₁ with heap := h', toks := tk }) E
      { s with heap := s.heap.push { cls := .type "dict", data := .dict #[] } }) :
    wpAny (model prog w) A (eval (.Dict keys values pos) env) Q E s := by
  rw [arm_eval_Dict, hshape, dictDisplay_pairs pairs h0 (by omega)]
  exact PySem.wpAny_bind (wpAny_standAt (PySem.wpAny_bind (wpAny_subDictH (knd := knd) (Q := fun d s' => wpAny (model prog w) A (pure (Value.ref d)) Q E s') hu hlen
    (wpAny_mono h (fun vs s₁ h₁ => by obtain ⟨ps, hc, hm, hq⟩ := h₁; exact ⟨ps, hc, hm, fun h' tk a b => wpAny_pure (hq h' tk a b)⟩) fun _ _ e => e))))
end

section
variable {X : Cx} {pos : Pos} {keys : List (Option Expr)} {values : List Expr} {trs : List (TE × TE)}
def tDispT (trs : List (TE × TE)) : TE := fun σ H Q => ∀ p, H p = none → tPairs trs σ (upd H p (.dT [])) fun ps H2 => H2 p = some (.dT []) ∧ ∃ b ks v, ps = [(V.ref b, v)] ∧ H2 b = some (.tup (ks.map kV)) ∧ Q (.ref p) (upd H2 p (.dT [(ks, v)]))
theorem pe_dispT (hu : X.A.units + 1 < cLine) (h : PPs X pos keys values trs) (hall : keys.all (·.isSome) = true) (hl : keys.length = values.length) (h0 : keys ≠ [])
    (h15 : keys.length ≤ 15) : PE X (.Dict keys values pos) (tDispT trs) := by
  refine ⟨fun pins s σ H Q I q => ?_⟩
  have hn := I.hok.fresh (Nat.le_refl s.heap.objs.size)
  have I1 := I.laid (a := s.heap.objs.size) (o := .dT []) (h' := s.heap.push { cls := .type "dict", data := .dict #[] }) (t' := s.toks) (fun _ _ q => Heap.get?_push_of_some _ q) (Nat.le_refl _) (dt_empty s.heap I.big)
  have hnl := pairTrees_length keys values X.env pos hall hl
  refine wpAny_Dict_pairsH2 (knd := tupleKind (mixKind X.prog X.w)) (pairs := pairTrees keys values X.env pos) (show X.A.units < cLine by omega) (zip_pairTrees keys values X.env pos hall hl) (fun he => ?_) (by rw [hnl]; exact h15) (thn (h.run pins _ σ _ _ I1 (q _ hn)) fun ws s2 ⟨ps, H2, I2, rel, e, b, ks, v, ep, eb, q2⟩ => ?_)
  · rw [he] at hnl
    exact h0 (List.length_eq_zero_iff.mp hnl.symm)
  subst ep
  cases rel with
  | @cons p0 p as bs hp t =>
  cases t
  obtain ⟨r1, r2⟩ := p
  cases (show r1 = Value.ref b from hp.1)
  obtain ⟨z, hd, xs0, r0, dd⟩ := dt_of I2.hok e
  cases r0
  refine ⟨[(ks, b, r2)], ⟨rfl, rfl, key_of I2.hok eb, True.intro⟩, dd, fun h' tk dd' hs => ⟨.ref s.heap.objs.size, _, ?_, rfl, q2⟩⟩
  obtain ⟨o, es, ep, hq, h2, h3, h4, _, h5⟩ := dd'
  refine d_write I2 (by rw [e]; exact True.intro) hs ⟨o, hq⟩ ⟨by rw [sizeLine_eq]; simp, hd, [(ks, b, r2)], .cons ⟨rfl, ?_, hp.2⟩ .nil, o, es, ep, hq, h2, h3, h4, h5⟩
  rw [upd_ne (ne_of eb e (fun z => nomatch z))]
  exact eb
end

/-- one pair, its key a tuple of numbers and texts -/
def oneT : List PyData → Option (List Key × PyData)
  | [.tuple ds, v] => (keysOf ds).bind fun ks => some (ks, v)
  | _ => none
def eDictT (ps : List (ME × ME)) : ME := fun env => (aPairs ps env).bind fun p => (fixAll p.1 p.2).bind fun q => (oneT q.2).bind fun kv => some (q.1, .own (.dict [(.tuple (kv.1.map keyD), kv.2)]))
theorem oneT_some {ds : List PyData} {kv : List Key × PyData} (h : oneT ds = some kv) : ∃ d, ds = [.tuple d, kv.2] ∧ keysOf d = some kv.1 := by
  unfold oneT at h
  split at h
  · obtain ⟨ks, e, h⟩ := bind_some h
    cases h
    exact ⟨_, rfl, e⟩
  · cases h
section
variable {X : Cx} {pos : Pos} {keys : List (Option Expr)} {values : List Expr} {ps : List (ME × ME)}
theorem dispT_to {K : PySem.W.Frag} {σ : L2.St} {H : Hp} {Q : VK} (h : tE K (eDictT ps) σ H Q) : tDispT (ps.map fun p => (tE K p.1, tE K p.2)) σ H Q := by
  obtain ⟨F, env, A, env', r, em, k⟩ := h
  obtain ⟨⟨env1, rs⟩, e1, em⟩ := bind_some em
  obtain ⟨⟨env2, ds⟩, e2, em⟩ := bind_some em
  obtain ⟨⟨ks, w⟩, e3, em⟩ := bind_some em
  cases em
  obtain ⟨d, e4, e5⟩ := oneT_some e3
  cases (show ds = _ from e4)
  intro p hp
  have sH : Same H (upd H p (.dT [])) := fun b o q => by rw [upd_ne (ne_of_none q hp)]; exact q
  obtain ⟨A0, f0⟩ := grow A (Same.refl F) sH (A.same.trans sH) fun _ _ h => .inl h
  have np : ¬ Owns σ env p := fun z => by
    obtain ⟨_, o, ho⟩ := A.ownsF z
    rw [hp] at ho; cases ho
  refine pairs_to ⟨F, env, A0, env1, rs, e1, fun us F1 H1 A1 f1 o1 n1 pv epv => ?_⟩
  subst epv
  obtain ⟨F2, A2, f2, r2, s2⟩ := fix_all A1 f1 o1 n1 e2
  have h1p : H1 p = some (.dT []) := f1.keep p _ upd_same np
  have f2p : F2 p = none := by
    cases q : F2 p with
    | none => rfl
    | some u =>
      rcases f2.new p u q with z | z | z
      · rw [A.same.free hp] at z; cases z
      · obtain ⟨_, e⟩ := z _ upd_same; cases e
      · exact (np z).elim
  have n2 : ¬ Owns σ env2 p := fun z => by
    rcases f2.own p z with z | z
    · exact np z
    · rw [upd_same] at z; cases z
  match pv, r2 with
  | [], r2 => cases r2
  | [(a, b)], r2 =>
    cases r2 with
    | cons ha r2 =>
    cases r2 with
    | cons hb r2 =>
    cases ha with
    | @tup c xs _ q r =>
    obtain ⟨q1, q2⟩ := keys_rel r e5
    subst q1
    refine ⟨h1p, c, ks, b, rfl, A2.same _ _ q, ?_⟩
    refine k (.ref p) F2 _ (abs_other A2 f2p n2) (frm_other (f0.trans f2) hp) ⟨p, rfl, f2p, .inr (.inl ⟨[(ks, b)], [w], upd_same, .cons hb .nil, (fun z => by cases z), rfl⟩), n2⟩ ⟨p, rfl, hp⟩
  | (_, _) :: (_, _) :: _, r2 =>
    cases r2 with
    | cons ha r2 =>
    cases r2 with
    | cons hb r2 => cases r2
theorem re_dictT (hu : X.A.units + 65 < cLine) (h : PPs X pos keys values (ps.map fun p => (tE X.K p.1, tE X.K p.2))) (hall : keys.all (·.isSome) = true := by rfl) (hl : keys.length = values.length := by rfl) (h0 : keys ≠ [] := by intro z; cases z) (h15 : keys.length ≤ 15 := by decide) :
    PE X (.Dict keys values pos) (tE X.K (eDictT ps)) := pe_imp (pe_dispT (by omega) h hall hl h0 h15) fun _ _ _ => dispT_to
variable {env : MEnv} {P : MEnv → RV → Prop}
def kDictTb (P : MEnv → RV → Prop) (e : MEnv) (ds : List PyData) : Prop := ∃ kv, oneT ds = some kv ∧ P e (.own (.dict [(.tuple (kv.1.map keyD), kv.2)]))
def kDictT (P : MEnv → RV → Prop) (e : MEnv) (rs : List RV) : Prop := WFs rs e (kDictTb P)
theorem we_dictT {e : MEnv} : WE (eDictT ps) e P ↔ WA (aPairs ps) e (kDictT P) := by
  simp only [WE, WA, WFs, eDictT, wp_bind, wp_some]
  try exact Iff.rfl
theorem kDictT_eq {e : MEnv} {rs : List RV} : kDictT P e rs ↔ WFs rs e (kDictTb P) := Iff.rfl
theorem kDictTb_2 {e : MEnv} {i j : Int} {w : PyData} : kDictTb P e [.tuple [.int i, .int j], w] ↔ P e (.own (.dict [(.tuple [.int i, .int j], w)])) := ⟨fun ⟨kv, h, q⟩ => by cases h; exact q, fun q => ⟨_, rfl, q⟩⟩
end
end L3

/-! L3X: how long what repr tells is, by a weight. -/
namespace L3
open PySem PySem.Spec PyProof.Rows L2
mutual
/-- no less than what is shown is long -/
def wt : PyData → Nat
  | .none => 4
  | .bool _ => 5
  | .int _ => 101
  | .str x => 10 * x.length + 2
  | .list xs => wtAll xs + 2
  | .tuple xs => wtAll xs + 3
  | .dict kvs => wtKv kvs + 2
def wtAll : List PyData → Nat
  | [] => 0
  | x :: xs => wt x + 2 + wtAll xs
def wtKv : List (PyData × PyData) → Nat
  | [] => 0
  | (k, v) :: r => wt k + wt v + 4 + wtKv r
end
mutual
/-- numbers that are not too long, texts of signs -/
def fineD : PyData → Prop
  | .int i => i.natAbs < 10 ^ 100
  | .str x => ∀ c ∈ x.cps.toList, c < 16 ^ 8
  | .list xs => fineAll xs
  | .tuple xs => fineAll xs
  | .dict kvs => fineKv kvs
  | _ => True
def fineAll : List PyData → Prop
  | [] => True
  | x :: xs => fineD x ∧ fineAll xs
def fineKv : List (PyData × PyData) → Prop
  | [] => True
  | (k, v) :: r => fineD k ∧ fineD v ∧ fineKv r
end
def wSum : List Str → Nat
  | [] => 0
  | t :: ts => t.length + 2 + wSum ts
theorem join_wSum : ∀ ts : List Str, (Str.join ", " ts).length ≤ wSum ts
  | [] => by show 0 ≤ _; omega
  | [x] => by show x.length ≤ x.length + 2 + 0; omega
  | x :: y :: r => by
    have h2 := join_wSum (y :: r)
    show (x ++ ", " ++ Str.join ", " (y :: r)).length ≤ x.length + 2 + wSum (y :: r)
    rw [strA, strA]
    have h3 : (", " : Str).length = 2 := by decide +kernel
    rw [h3]
    omega
theorem from_wSum : ∀ (ts : List Str) (k : Nat) (acc : Str), (textFrom k acc ts).length ≤ acc.length + wSum ts
  | [], _, acc => by show acc.length ≤ acc.length + 0; omega
  | t :: ts, k, acc => by
    unfold textFrom
    refine Nat.le_trans (from_wSum ts _ _) ?_
    show _ ≤ acc.length + (t.length + 2 + wSum ts)
    have h3 : (", " : Str).length = 2 := by decide +kernel
    rw [strA]
    have h4 : (Str.ofString "").length = 0 := by decide +kernel
    rw [strA]
    split
    · rw [show (Str.ofString ", ").length = 2 from h3]; omega
    · rw [h4]; omega
mutual
theorem shown_wt : ∀ d : PyData, fineD d → d.shown.length ≤ wt d ∧ d.showable = true
  | .none, _ => ⟨by rw [PyData.shown, wt]; decide +kernel, by simp [PyData.showable]⟩
  | .bool b, _ => ⟨by rw [PyData.shown, wt]; cases b <;> decide +kernel, by simp [PyData.showable]⟩
  | .int i, h => ⟨by rw [PyData.shown, wt]; rw [fineD] at h; exact int_len h, by rw [fineD] at h; simpa [PyData.showable] using int_log h⟩
  | .str x, h => ⟨by rw [PyData.shown, wt]; rw [fineD] at h; exact StrLaws.reprText_len x h, by simp [PyData.showable]⟩
  | .list xs, h => by
    rw [fineD] at h
    obtain ⟨h1, h2⟩ := shown_wtAll xs h
    refine ⟨?_, by simpa [PyData.showable] using h2⟩
    rw [PyData.shown, wt, listText, strA]
    have := from_wSum (PyData.shownAll xs) 0 "["
    have h3 : ("[" : Str).length = 1 := by decide +kernel
    have h4 : ("]" : Str).length = 1 := by decide +kernel
    omega
  | .tuple xs, h => by
    rw [fineD] at h
    obtain ⟨h1, h2⟩ := shown_wtAll xs h
    refine ⟨?_, by simpa [PyData.showable] using h2⟩
    rw [PyData.shown, wt, tupleText, strA, strA]
    have := join_wSum (PyData.shownAll xs)
    have h3 : ("(" : Str).length = 1 := by decide +kernel
    have h4 : (Str.ofString (if (PyData.shownAll xs).length == 1 then ",)" else ")")).length ≤ 2 := by split <;> decide +kernel
    omega
  | .dict kvs, h => by
    rw [fineD] at h
    obtain ⟨h1, h2⟩ := shown_wtKv kvs h
    refine ⟨?_, by simpa [PyData.showable] using h2⟩
    rw [PyData.shown, wt, dictText, strA, strA]
    have := join_wSum (PyData.shownKv kvs)
    have h3 : ("{" : Str).length = 1 := by decide +kernel
    have h4 : ("}" : Str).length = 1 := by decide +kernel
    omega
theorem shown_wtAll : ∀ xs : List PyData, fineAll xs → wSum (PyData.shownAll xs) ≤ wtAll xs ∧ PyData.showableAll xs = true
  | [], _ => ⟨by simp [PyData.shownAll, wSum, wtAll], by simp [PyData.showableAll]⟩
  | x :: xs, h => by
    rw [fineAll] at h
    obtain ⟨a1, a2⟩ := shown_wt x h.1
    obtain ⟨b1, b2⟩ := shown_wtAll xs h.2
    refine ⟨?_, by simp [PyData.showableAll, a2, b2]⟩
    rw [PyData.shownAll, wSum, wtAll]
    omega
theorem shown_wtKv : ∀ kvs : List (PyData × PyData), fineKv kvs → wSum (PyData.shownKv kvs) ≤ wtKv kvs ∧ PyData.showableKv kvs = true
  | [], _ => ⟨by simp [PyData.shownKv, wSum, wtKv], by simp [PyData.showableKv]⟩
  | (k, v) :: r, h => by
    rw [fineKv] at h
    obtain ⟨a1, a2⟩ := shown_wt k h.1
    obtain ⟨c1, c2⟩ := shown_wt v h.2.1
    obtain ⟨b1, b2⟩ := shown_wtKv r h.2.2
    refine ⟨?_, by simp [PyData.showableKv, a2, b2, c2]⟩
    rw [PyData.shownKv, wSum, wtKv, strA, strA]
    have h3 : (": " : Str).length = 2 := by decide +kernel
    omega
end
structure ReprOk (d : PyData) : Prop where
  fine : fineD d
  dict : d.hasDict = false ∨ listFree d = true
  deep : d.depth ≤ 60
  wide : wt d ≤ lineN
/-- a tuple, whatever stands in it -/
structure ReprTup (ds : List PyData) : Prop where
  fine : fineAll ds
  deep : (PyData.tuple ds).depth ≤ 60
  wide : wt (.tuple ds) ≤ lineN
theorem reprD_tup {ds : List PyData} (h : ReprTup ds) : reprD [.tuple ds] = some (.fz (.str (PyData.tuple ds).shown)) := by
  obtain ⟨h1, h2⟩ := shown_wt (.tuple ds) (by rw [fineD]; exact h.fine)
  rw [reprD_1, if_pos ⟨h2, .inr rfl, h.deep, Nat.le_trans h1 h.wide⟩]
theorem reprD_ok {d : PyData} (h : ReprOk d) : reprD [d] = some (.fz (.str d.shown)) := by
  obtain ⟨h1, h2⟩ := shown_wt d h.fine
  rw [reprD_1, if_pos ⟨h2, .inl h.dict, h.deep, Nat.le_trans h1 h.wide⟩]
end L3

/-! L3Y: what is raised out of a list comprehension's element. -/
namespace L3
open PySem PySem.Spec PyProof.Rows L2
theorem noteFrame_as {env env' : Env} (h : env.frame = env'.frame) (e : Value) : noteFrame e env = noteFrame e env' := by
  unfold noteFrame PySem.frameOf
  rw [h]
theorem passOn_as {α : Type} {env env' : Env} (h : env.frame = env'.frame) (x : String) (e : Value) : (PySem.passOn x e env : Sem α) = PySem.passOn x e env' := by
  unfold PySem.passOn
  rw [h]
section
variable {M : Model} {A : Around} {E : Value → Shared → Prop} {s : Shared} {env : Env}
def compErr (M : Model) (A : Around) (E : Value → Shared → Prop) (C : Addr) (fr : Option Addr) (x : Value) (s' : Shared) : Prop :=
  ∃ m, s'.heap.Ns C m ∧ ∀ h', Heap.SameBut C s'.heap h' → ∀ cenv : Env, cenv.locals = C → cenv.frame = fr → wpAny M A (PySem.passOn "comprehension.variables-let-go" x cenv : Sem Value) (fun _ _ => False) E { s' with heap := h' }
def compPost2 (M : Model) (A : Around) (E : Value → Shared → Prop) (Q : Value → Shared → Prop) (acc : Value) (C : Addr) (fr : Option Addr) (r : Result) (s' : Shared) : Prop :=
  match r with
  | .ok _ => ∃ m, s'.heap.Ns C m ∧ ∀ h', Heap.SameBut C s'.heap h' → Q acc { s' with heap := h' }
  | .error x => compErr M A E C fr x s'
theorem wpAny_comprehension_free2 {e : Expr} {scope : Scope} {pos : Pos} {newAcc first : Sem Value} {g : Comprehension} {gs : List Comprehension} {cl : List (Str × Addr)}
    {Q : Value → Shared → Prop}
    (hcl : clausesOf e = g :: gs) (hs : ∀ x, foldedSetIterable g.iter env x = pure x) (hclos : closureFor scope env = pure cl)
    (hkind : scope.kind = .function) (hnames : ∀ x ∈ scope.names, x.2 = .local → scope.names.lookup x.1 = some .local)
    (h : wpAny M A first (fun x s₁ => wpAny M A (pyIter x) (fun it s₂ => wpAny M A newAcc (fun acc s₃ =>
      wpAny M A (newFunctionEnv scope env.globals cl [] env.qual none .none (some env)) (fun cenv s₄ =>
        codeAny M A (.compStart e 0 it acc { cenv with scope := relabel scope env }) (compPost2 M A E Q acc cenv.locals cenv.frame) s₄) E s₃) E s₂) E s₁) E s) :
    wpAny M A (comprehension e scope env pos newAcc false first none) Q E s := by
  unfold comprehension
  rw [hclos, hcl]
  refine wpAny_bind (wpAny_mono h (fun x s₁ h₁ => wpAny_bind (wpAny_standAt (wpAny_bind (wpAny_of_eq (hs x) (wpAny_bind (wpAny_holding (wpAny_mono h₁ (fun it s₂ h₂ =>
    wpAny_standIf (wpAny_bind (wpAny_mono h₂ (fun acc s₃ h₃ => wpAny_bind (wpAny_pure (wpAny_bind (wpAny_mono h₃ (fun cenv s₄ h₄ => ?_) fun _ _ h' => h')))) fun _ _ h' => h')))
      fun _ _ h' => h'))))))) fun _ _ h' => h')
  dsimp only
  have hv : ∀ x ∈ (scope.names.filter fun x => (x.2 == .local || x.2 == .cell) && x.1 != (".0" : Str)).reverse, x.2 = .local →
      Env.kindOf { cenv with scope := relabel scope env } x.1 = some .local := fun x hx hl => lookup_relabel_local (hnames x (List.mem_filter.mp (List.mem_reverse.mp hx)).1 hl)
  refine wpAny_holding (wpAny_bind (wpAny_attempt (wpAny_holding (wpAny_run (codeAny_mono h₄ fun r s' hr => ?_)))))
  cases r with
  | ok f =>
    obtain ⟨m, hn, hr⟩ := hr
    exact wpAny_bind (wpAny_holding (wpAny_comp_letGo (cenv := { cenv with scope := relabel scope env }) hkind _ s' m hv hn fun h' m' _ hs' => wpAny_pure (hr h' hs')))
  | error x =>
    obtain ⟨m, hn, hr⟩ := hr
    exact wpAny_bind (wpAny_holding (wpAny_comp_letGo (cenv := { cenv with scope := relabel scope env }) hkind _ s' m hv hn fun h' m' _ hs' => wpAny_mono (hr h' hs' _ rfl rfl) (fun _ _ f => f.elim) fun _ _ y => y))
end

section
variable {X : Cx} {pins : List (Addr × Obj)} {σ : L2.St} {H : Hp} {s s' : Shared} {W : L2.WX} {E : XK}
theorem ff_other {h1 h2 B : Heap} {C : Addr} (sb : Heap.SameBut C h1 h2) : ∀ {l : List Env}, h1.FunFrames B l → C ∉ frs l → h2.FunFrames B l
  | [], _, _ => trivial
  | env :: l, h, hn => by
    obtain ⟨hk, ⟨L, o, hf, hb, ho, hd⟩, hr⟩ := h
    have hm : frs (env :: l) = L :: frs l := by unfold frs; rw [List.filterMap_cons, hf]
    rw [hm] at hn
    simp only [List.mem_cons, not_or] at hn
    exact ⟨hk, ⟨L, o, hf, hb, (sb.2 L (fun z => hn.1 z.symm)).trans ho, hd⟩, ff_other sb hr hn.2⟩
/-- as XE.of_call, and that it is in flight -/
theorem of_callF (I : Inv X pins σ H s) {u : Value} (c : L2.CX X.prog X.w X.stack H s E u s') :
    ∃ (a : Addr) (B : Heap) (sI : Shared) (H' : Hp) (cls : Value) (d : Option Addr), u = .ref a ∧ Inv X pins σ H' sI ∧ (∀ b o, sI.heap.get? b = some o → b ∉ frs X.stack → B.get? b = some o) ∧ sI.heap.UpToSlots s'.heap ∧
      HandSPX.FlyingZ B X.stack a (Zc cls d) s'.heap ∧ H' a = none ∧ s'.os = sI.os ∧ AllBare s'.gens ∧ E cls d H' := by
  obtain ⟨a, B, H', cls, d, rfl, fl, hok, ub, na, os, ag, hE⟩ := c
  obtain ⟨G, g1, g2⟩ := restrict s'.heap fun b => (B.get? b).isSome || decide (b ∈ frs X.stack)
  have st : B.StaysIn s'.heap := fl.1
  have gB : ∀ b o, B.get? b = some o → G.get? b = some o := fun b o e => by
    rw [g1 b (by simp [e])]
    exact st b o e
  have gF : ∀ b, b ∈ frs X.stack → G.get? b = s'.heap.get? b := fun b hb => g1 b (by simp [hb])
  have og : ∀ b o, G.get? b = some o → s'.heap.get? b = some o ∧ ((B.get? b).isSome = true ∨ b ∈ frs X.stack) := fun b o e => by
    cases q : ((B.get? b).isSome || decide (b ∈ frs X.stack)) with
    | false => rw [g2 b q] at e; cases e
    | true =>
      rw [g1 b q] at e
      exact ⟨e, by simpa [Bool.or_eq_true] using q⟩
  refine ⟨a, B, { s with heap := G, gens := s'.gens, drawn := s'.drawn, toks := s'.toks }, H', cls, d, rfl, ?_, fun b o e hb => ?_, Heap.UpToSlots.of_keeps fun b o e => (og b o e).1, fl, na, os, ag, hE⟩
  · refine I.call (ch := []) ⟨fun b o e n hb _ => gB b o (ub.keep b o e n hb), fun b o e n hb _ => ?_, fun b o e n _ => ub.free b o e n, fun b o e _ => ?_, ub.tups, ub.frzs, ub.tbls⟩ (hok.kept gB) ag (fun _ z => nomatch z)
    · obtain ⟨sl, q⟩ := ub.slot b o e hb
      exact ⟨sl, by rw [gF b hb]; exact q⟩
    · by_cases hb : b ∈ frs X.stack
      · obtain ⟨sl, q⟩ := ub.slot b o e hb
        exact ⟨_, by rw [gF b hb]; exact q⟩
      · obtain ⟨o', q⟩ := ub.there b o e hb
        exact ⟨o', gB b o' q⟩
  · obtain ⟨e', h⟩ := og b o e
    rcases h with h | h
    · obtain ⟨o', q⟩ := Option.isSome_iff_exists.mp h
      have z := st b o' q
      rw [e'] at z; cases z
      exact q
    · exact absurd h hb
/-- an element's call lets something out: it passes the comprehension -/
theorem comp_err {H3 : Hp} {s3 : Shared} {scope : Scope} {ce : Env} {fp : List Addr} {pn pinsB : List (Addr × Obj)} {xe : Value → Shared → Prop} {σB : L2.St} {u : Value}
    (hs : X.stack = X.env :: X.outer) (hf : X.env.frame = some X.env.locals) (tk : Takes X W) (I3 : Inv X pins σ H3 s3) (f3 : ∀ b ∈ fp, FpOk X pins H3 b ∧ b < s3.heap.objs.size)
    (hL : ce.locals = s3.heap.objs.size) (hfr : ce.frame = X.env.frame) (J : Inv ((X.blk s3 H3 scope ce fp).tr pn xe) pinsB σB H s)
    (c : L2.CX X.prog X.w X.stack H s (fun cls d H' => W cls d σ H') u s') : notedBy (model X.prog X.w) X.A ce (fun e s'' => compErr (model X.prog X.w) X.A X.xe ce.locals ce.frame e s'') u s' := by
  obtain ⟨a, B, sI, H', cls, d, rfl, JI, nb, up, fl, na, os, ag, w⟩ := of_callF (X := (X.blk s3 H3 scope ce fp).tr pn xe) J c
  have nb : ∀ b o, sI.heap.get? b = some o → b ∉ frs X.stack → B.get? b = some o := nb
  have fl : HandSPX.FlyingZ B X.stack a (Zc cls d) s'.heap := fl
  have hfrm : X.A.frames = some (X.env :: X.outer) := by rw [I3.ok.frames, hs]
  have fl' := fl
  rw [hs] at fl'
  show wpAny _ X.A (noteFrame (.ref a) ce) _ _ _
  rw [noteFrame_as hfr]
  refine HandSPX.looks_onZ Zc.steady hfrm hf fl' fun h1 hd1 up1 => ?_
  have st1 : B.StaysIn h1 := hd1.1
  have J1 : Inv ((X.blk s3 H3 scope ce fp).tr pn xe) pinsB σB H' { s' with heap := h1 } := JI.landed nb st1 (up.trans up1) os ag
  obtain ⟨m, hn, _⟩ := J1.loc
  have hn : h1.Ns ce.locals m := hn
  -- the ground, and the state, without the block's names
  generalize hC : ce.locals = C at hn hL ⊢
  have nC : H' C = none := by
    have z : H' ce.locals = none := JI.free
    rwa [hC] at z
  have I7 : Inv X pins σ H' sI := I3.call' (ch := fp) JI.os JI.base JI.hok JI.bare fun b hb => ⟨(f3 b hb).1.2.2.2.1, (f3 b hb).1.2.1, (f3 b hb).1.2.2.2.2.1, (f3 b hb).1.2.2.2.2.2⟩
  obtain ⟨g0, g1, g2, g3, g4, g5⟩ := I3.fpOk (H' := H') (b := C) (by rw [hL]; exact Nat.le_refl _) nC
  have hid : ∀ (h : Heap) b o, (PySem.W.hideAll h [C]).get? b = some o → h.get? b = some o ∧ b ≠ C := fun h b o e => by
    refine ⟨PySem.W.of_hideAll _ e, fun z => ?_⟩
    rw [z, PySem.W.hideAll_none [C] (by simp)] at e
    cases e
  have keepC : ∀ (h : Heap) b o, b ≠ C → h.get? b = some o → (PySem.W.hideAll h [C]).get? b = some o := fun h b o hb e => PySem.W.hideAll_get _ e (by simpa using hb)
  have I8 : Inv X pins σ H' { sI with heap := PySem.W.hideAll sI.heap [C] } := I7.turned (t' := sI.toks) (it := C) (fun b o hb e => keepC _ b o hb e) nC g1 g3 g4 g5
  have nfs : C ∉ frs X.stack := by
    rw [hs]
    intro hm
    rcases List.mem_cons.mp (show C ∈ X.env.locals :: frs X.outer by
      have : frs (X.env :: X.outer) = X.env.locals :: frs X.outer := by unfold frs; rw [List.filterMap_cons, hf]
      rwa [this] at hm) with z | z
    · exact g1 z
    · exact g2 z
  have hBC : ∃ o, B.get? C = some o := by
    obtain ⟨oC, _, _, e1, _⟩ := JI.loc.choose_spec.1
    have e1 : sI.heap.get? ce.locals = some oC := e1
    rw [hC] at e1
    exact ⟨oC, nb C oC e1 nfs⟩
  obtain ⟨oC, eC⟩ := hBC
  refine ⟨m, hn, fun h2 sb cenv hcl hcf => ?_⟩
  obtain ⟨k1, k2, k3, oe, vs, T, oT, ts, he, hz, hd, hv1, hnT, hTe, hT, hdT, hv3⟩ := hd1
  have neA : a ≠ C := fun z => by rw [z, eC] at k2; cases k2
  have neT : T ≠ C := fun z => by rw [z, eC] at hnT; cases hnT
  have he2 : h2.get? a = some oe := (sb.2 a neA).trans he
  have hT2 : h2.get? T = some oT := (sb.2 T neT).trans hT
  have st2 : (PySem.W.hideAll B [C]).StaysIn h2 := fun b o e => by
    obtain ⟨e', hb⟩ := hid B b o e
    exact (sb.2 b hb).trans (st1 b o e')
  have hide0 : ∀ b, B.get? b = none → (PySem.W.hideAll B [C]).get? b = none := fun b e => by
    cases q : (PySem.W.hideAll B [C]).get? b with
    | none => rfl
    | some o =>
      obtain ⟨z, _⟩ := hid B b o q
      rw [e] at z; cases z
  have ff2 : h2.FunFrames (PySem.W.hideAll B [C]) (X.env :: X.outer) := by
    rw [hs] at nfs
    exact ff_other sb (funFrames_none k3 fun b hb => hide0 b (k3.mem hb).1) nfs
  have tr2 : HandSPX.TracedZ h2 (PySem.W.hideAll B [C]) a (Zc cls d) (rawInt X.env.locals) := ⟨oe, vs, T, oT, ts, he2, hz, hd, hv1, hide0 T hnT, hTe, hT2, hdT, hv3⟩
  unfold PySem.passOn
  refine wpAny_bind (wpAny_field he2 hd hv1 ?_)
  rw [if_neg (show ¬ ((Value.ref T == Value.none) = true) from by simp)]
  have fin : wpAny (model X.prog X.w) X.A (setFlight (.ref a) cenv.frame) (fun _ s4 => wpAny (model X.prog X.w) X.A (throw (.ref a) : Sem Value) (fun _ _ => False) X.xe s4) X.xe { { s' with heap := h1 } with heap := h2 } := by
    rw [hcf, hfr, hf]
    refine HandSPX.setFlight_anyZ (fr := some X.env.locals) st2 ff2 tr2 fun h3 q1 q2 q3 q4 => wpAny_throw (tk _ _ ?_)
    refine ⟨a, PySem.W.hideAll B [C], { sI with heap := PySem.W.hideAll sI.heap [C] }, pins, σ, H', cls, d, rfl, I8, fun b o e hb => ?_, fun b o e hnf => ?_, .inr (.inr ?_), na, os, ag, w⟩
    · obtain ⟨e', hb'⟩ := hid _ b o e
      exact keepC _ b o hb' (nb b o e' hb)
    · obtain ⟨e', hb'⟩ := hid _ b o e
      obtain ⟨sl, e1⟩ := (up.trans up1) b o e' hnf
      have e2 : h2.get? b = some { o with slots := sl } := (sb.2 b hb').trans e1
      obtain ⟨sl2, e3⟩ := q4 b _ e2 hnf
      exact ⟨sl2, e3⟩
    · rw [hs]
      exact ⟨q1, hide0 a k2, q2, q3⟩
  first
    | exact wpAny_bind (wpAny_pure (wpAny_bind fin))
    | exact wpAny_bind fin
theorem lc_coreX {pins : List (Addr × Obj)} {s : Shared} {σ : L2.St} {H : Hp} {Q : VK} {elt tg iter : Expr} {ifs : List Expr} {scope : Scope} {own : List (Str × Nat)} {pos pos' : Pos} {wi : TI} {g : TG} {tt : TT} {te : TE} {W : L2.WX} {Qf : Value → Shared → Prop}
    (hs2 : X.stack = X.env :: X.outer) (hf2 : X.env.frame = some X.env.locals) (tk : Takes X W)
    (hc : X.calm = true) (hN : X.N.Nodup) (I : Inv X pins σ H s) (hi : PI X tg iter wi) (ok : BlkOk X.N X.env.scope scope own)
    (hg : ∀ (s : Shared) (H : Hp) (C : Addr) (cl : List (Str × Addr)) (fp : List Addr), PG (X.blk s H scope (compEnvC scope cl C X.env) fp) tg g) (ht : ∀ (s : Shared) (H : Hp) (C : Addr) (cl : List (Str × Addr)) (fp : List Addr), PTs (X.blk s H scope (compEnvC scope cl C X.env) fp) ifs tt)
    (he : ∀ (s : Shared) (H : Hp) (C : Addr) (cl : List (Str × Addr)) (fp : List Addr) (pn : List (Addr × Obj)) (xe : Value → Shared → Prop), (∀ σb, PassesAt (L2.CX X.prog X.w) ((X.blk s H scope (compEnvC scope cl C X.env) fp).tr pn xe) σb (fun cls d H' => W cls d σ H')) →
      PE ((X.blk s H scope (compEnvC scope cl C X.env) fp).tr pn xe) elt te) (hs : ∀ x, foldedSetIterable iter X.env x = pure x)
    (h : tLc wi g tt te (own.map (·.2)) σ H Q)
    (hRR : ∀ D C s' m H', Inv X pins σ H' s' → Q (.ref D) H' → s'.heap.Ns C m → FpOk X pins H' C → compPost2 (model X.prog X.w) X.A X.xe Qf (.ref D) C X.env.frame (.ok .next) s') :
    wpAny (model X.prog X.w) X.A (comprehension (.ListComp elt [⟨tg, iter, ifs, 0⟩] scope pos) scope X.env pos' (newList []) false (eval iter X.env) none) Qf X.xe s := by
  have hfree : ∀ y ∈ scope.names, y.2 = .free → ∃ c, X.env.cells.lookup y.1 = some c := fun y hy e => by
    rcases ok.free y hy e with k | k
    · exact I.ok.has _ (.inl k)
    · exact I.ok.has _ (.inr k)
  refine wpAny_comprehension_free2 rfl hs (closure_ok hfree) ok.kind (fun y hy e => by rw [ok.uniq y hy, e])
    (thn (hi.run pins s σ H _ I h) fun xv s1 hx => thn hx fun itv s2 h2 => ?_)
  obtain ⟨it, fp, tn, J, H2, e, I2, T, st2, f2, q⟩ := h2
  subst e
  refine wpAny_newObj_type (newEnv_comp ?_) (by show 0 ≤ sizeLine; decide)
  generalize hD : s2.heap.objs.size = D
  have hDn : H2 D = none := I2.hok.fresh (Nat.le_of_eq hD)
  obtain ⟨W, ⟨m0, w0⟩, turn⟩ := q D hDn
  -- the new list
  generalize hs3 : ({ s2 with heap := s2.heap.push { cls := .type "list", data := .seq ([] : List Value).toArray } } : Shared) = s3
  have I3 : Inv X pins σ (upd H2 D (.lst [])) s3 := by
    rw [← hs3]
    refine I2.laid (t' := s2.toks) (fun b o e => Heap.get?_push_of_some _ e) (Nat.le_of_eq hD) ⟨Nat.zero_le _, [], 0, .nil, ?_⟩
    rw [← hD]
    exact Heap.get?_push_size _ rfl
  have h3 : s3.heap = s2.heap.push { cls := .type "list", data := .seq ([] : List Value).toArray } := by rw [← hs3]
  have sz : ∀ b ∈ fp, b < s2.heap.objs.size := fun b hb => by
    obtain ⟨o, e, _⟩ := T.obj _ _ st2 b hb
    exact Heap.lt_size e
  have f3 : ∀ b ∈ fp, FpOk X pins (upd H2 D (.lst [])) b ∧ b < s3.heap.objs.size := fun b hb => by
    have hlt := sz b hb
    refine ⟨⟨?_, (f2 b hb).2⟩, by rw [h3, Heap.size_push]; exact Nat.lt_succ_of_lt hlt⟩
    rw [upd_ne (by rw [← hD]; exact Nat.ne_of_lt hlt)]
    exact (f2 b hb).1
  have st3 : tn 0 s3.heap := T.keep _ _ _ st2 fun b _ o e => by rw [h3]; exact Heap.get?_push_of_some _ e
  have I4 := block_start I3 ok hN f3
  have pg := hg s3 (upd H2 D (.lst [])) s3.heap.objs.size (cellsFrom (s3.heap.objs.size + 1) scope.names (cloFrom X.env.cells scope.names [])) fp
  have pt := ht s3 (upd H2 D (.lst [])) s3.heap.objs.size (cellsFrom (s3.heap.objs.size + 1) scope.names (cloFrom X.env.cells scope.names [])) fp
  have pe := he s3 (upd H2 D (.lst [])) s3.heap.objs.size (cellsFrom (s3.heap.objs.size + 1) scope.names (cloFrom X.env.cells scope.names [])) fp
  have cF : (compEnvC scope (cellsFrom (s3.heap.objs.size + 1) scope.names (cloFrom X.env.cells scope.names [])) s3.heap.objs.size X.env).frame = X.env.frame := rfl
  show codeAny _ _ (.compStart (.ListComp elt [⟨tg, iter, ifs, 0⟩] scope pos) 0 (.ref it) (.ref D) (compEnvC scope (cellsFrom (s3.heap.objs.size + 1) scope.names (cloFrom X.env.cells scope.names [])) s3.heap.objs.size X.env)) (compPost2 (model X.prog X.w) X.A X.xe Qf (.ref D) s3.heap.objs.size X.env.frame) { s3 with heap := pushCells (s3.heap.push { cls := .type "dict", data := .dict #[] }) scope.names }
  have nfp : ∀ b ∈ fp, (upd H2 D (.lst [])) b = none := fun b hb => (f3 b hb).1.1
  generalize hce : compEnvC scope (cellsFrom (s3.heap.objs.size + 1) scope.names (cloFrom X.env.cells scope.names [])) s3.heap.objs.size X.env = ce at I4 pg pt pe cF ⊢
  have cL : ce.locals = s3.heap.objs.size := by subst hce; rfl
  generalize hH3 : upd H2 D (.lst []) = H3 at I3 I4 pg pt pe w0 nfp f3
  generalize hs4 : ({ s3 with heap := pushCells (s3.heap.push { cls := .type "dict", data := .dict #[] }) scope.names } : Shared) = s4 at I4 ⊢
  have st4 : tn 0 s4.heap := T.keep _ _ _ st3 fun b _ o e => by rw [← hs4]; exact pushCells_keeps _ _ _ _ (Heap.get?_push_of_some _ e)
  have stat : ∀ {σ' : L2.St} {H' : Hp} {s' : Shared}, Inv (X.blk s3 H3 scope ce fp) [] σ' H' s' → (∀ b ∈ fp, H' b = none) → ∀ b ∈ fp, FpOk (X.blk s3 H3 scope ce fp) [] H' b := fun {σ' H' s'} I' hn b hb =>
    ⟨hn b hb, (I'.ok.exf b hb).1, I'.ok.exfs b hb, .inl hb, fun x c e => (I'.ok.exf b hb).2 x c e, fun p hp => absurd (show p ∈ ([] : List (Addr × Obj)) ++ [] from hp) (by simp)⟩
  have loop : codeAny (model X.prog X.w) X.A (.compLoop (.ListComp elt [⟨tg, iter, ifs, 0⟩] scope pos) 0 (.ref it) (.ref D) ce) (compPost2 (model X.prog X.w) X.A X.xe Qf (.ref D) s3.heap.objs.size X.env.frame) s4 := by
    refine compLoop_any (fun n s' => ∃ i H', Inv (X.blk s3 H3 scope ce fp) [] (wipe σ (own.map (·.2))) H' s' ∧ tn i s'.heap ∧ (∀ b ∈ fp, H' b = none) ∧ W i n H') ?_ m0 ⟨0, H3, I4, st4, nfp, w0⟩
    rintro n s5 ⟨i, H5, I5, st5, n5, w5⟩
    rcases turn i n H5 w5 with ⟨stop, qq⟩ | ⟨go, Nx, hNx, step⟩
    · have td := T.done (X.blk s3 H3 scope ce fp) rfl rfl rfl hc i [] s5 _ H5 (fun _ _ => False) I5 (stat I5 n5) st5 stop
      refine thnF td fun r s6 ⟨hr, I6⟩ => ?_
      subst hr
      -- back in the def's context
      have I7 : Inv X pins σ H5 s6 := I3.call' (ch := fp) I6.os I6.base I6.hok I6.bare fun b hb => ⟨(f3 b hb).1.2.2.2.1, (f3 b hb).1.2.1, (f3 b hb).1.2.2.2.2.1, (f3 b hb).1.2.2.2.2.2⟩
      have nC : H5 s3.heap.objs.size = none := by
        have z : H5 ce.locals = none := I6.free
        rw [cL] at z
        exact z
      obtain ⟨m, hn, _⟩ := I6.loc
      have hn : s6.heap.Ns ce.locals m := hn
      rw [cL] at hn
      exact hRR D s3.heap.objs.size s6 m H5 I7 qq hn (I3.fpOk (Nat.le_refl _) nC)
    · have ti := T.item (X.blk s3 H3 scope ce fp) rfl rfl rfl hc i [] s5 _ H5 (fun _ _ => False) I5 (stat I5 n5) st5 go
      refine thnF ti fun r s6 ⟨u, hr, h6⟩ => ?_
      subst hr
      refine thnF h6 fun _ s7 ⟨x, H7, I7, r7, y7, st7, n7⟩ => ?_
      have I7' := I7.pinned (stat I7 n7) (T.obj _ _ st7)
      refine thnF (pg.run _ s7 _ H7 x u _ I7' r7 (step x H7 y7)) fun _ s8 ⟨σ8, H8, I8, hw8, q8⟩ => ?_
      refine thnF (pt.run _ s8 σ8 H8 _ I8 q8) fun b s9 ⟨H9, I9, q9⟩ => ?_
      -- the turn's end
      have fin : ∀ {s' : Shared} {H' : Hp}, Inv (X.blk s3 H3 scope ce fp) ([] ++ pinsAt fp s7.heap) σ8 H' s' → Nx H' → ∃ m, m < n ∧ ∃ i H', Inv (X.blk s3 H3 scope ce fp) [] (wipe σ (own.map (·.2))) H' s' ∧ tn i s'.heap ∧ (∀ b ∈ fp, H' b = none) ∧ W i m H' := fun {s' H'} I' nx => by
        obtain ⟨m', hm, w'⟩ := hNx H' nx
        have pin' : ∀ b ∈ fp, ∀ o, s7.heap.get? b = some o → s'.heap.get? b = some o ∧ H' b = none := fun b hb o e =>
          let z := I'.pin (b, o) (List.mem_append_right _ (List.mem_append_right _ (mem_pinsAt hb e)))
          ⟨z.1, z.2.1⟩
        have hl : (wipe σ (own.map (·.2))).length = σ8.length := by rw [← hw8, wipe_length]
        refine ⟨m', hm, i + 1, H', (I'.unpinned (pins := [])).weak hl (fun j v e => ?_), T.keep _ _ _ st7 fun b hb o e => (pin' b hb o e).1, fun b hb => ?_, w'⟩
        · rw [← hw8] at e
          exact (wipe_some e).1
        · obtain ⟨o, e, _⟩ := T.obj _ _ st7 b hb
          exact (pin' b hb o e).2
      cases b with
      | false =>
        simp only [Bool.false_eq_true, if_false] at q9 ⊢
        exact fin I9 q9
      | true =>
        simp only [if_true] at q9 ⊢
        have okB := I9.ok
        refine wpAny_mono ((pe ([] ++ ([] ++ pinsAt fp s7.heap)) (notedBy (model X.prog X.w) X.A ce (fun e s'' => compErr (model X.prog X.w) X.A X.xe s3.heap.objs.size X.env.frame e s'')) (fun σb pinsB HB sB eB sB' JB cB => ?_)).run [] s9 σ8 H9 _ (I9.toTry _) q9) (fun z s10 hz => ?_) fun _ _ h => h
        · have := comp_err hs2 hf2 tk I3 f3 cL cF JB cB
          rw [cL, cF] at this
          exact this
        · obtain ⟨yv, H10, I10, r10, acc, hD10, hz10, nx⟩ := hz
          exact app_ok (X := X.blk s3 H3 scope ce fp) (I10.ofTry okB) hD10 hz10 r10 fun s11 I11 => fin I11 nx
  exact codeAny_compStart_list loop (T.self X.A 0 _ _ _ st4 loop)
/-- as a value; te is what the element wishes, at what it may let out -/
theorem pe_lcX {elt tg iter : Expr} {ifs : List Expr} {scope : Scope} {own : List (Str × Nat)} {pos : Pos} {wi : TI} {g : TG} {tt : TT} {te : L2.WX → TE} {W : L2.WX}
    (hs2 : X.stack = X.env :: X.outer) (hf2 : X.env.frame = some X.env.locals) (tk : Takes X W) (hc : X.calm = true) (hN : X.N.Nodup) (hi : PI X tg iter wi) (ok : BlkOk X.N X.env.scope scope own)
    (hg : ∀ (s : Shared) (H : Hp) (C : Addr) (cl : List (Str × Addr)) (fp : List Addr), PG (X.blk s H scope (compEnvC scope cl C X.env) fp) tg g) (ht : ∀ (s : Shared) (H : Hp) (C : Addr) (cl : List (Str × Addr)) (fp : List Addr), PTs (X.blk s H scope (compEnvC scope cl C X.env) fp) ifs tt)
    (he : ∀ (s : Shared) (H : Hp) (C : Addr) (cl : List (Str × Addr)) (fp : List Addr) (pn : List (Addr × Obj)) (xe : Value → Shared → Prop) (Wb : L2.WX), (∀ σb, PassesAt (L2.CX X.prog X.w) ((X.blk s H scope (compEnvC scope cl C X.env) fp).tr pn xe) σb (L2.WE Wb σb)) →
      PE ((X.blk s H scope (compEnvC scope cl C X.env) fp).tr pn xe) elt (te Wb)) (hs : ∀ x, foldedSetIterable iter X.env x = pure x := by intro _; rfl) :
    PE X (.ListComp elt [⟨tg, iter, ifs, 0⟩] scope pos) (fun σ H Q => tLc wi g tt (te fun cls d _ H' => W cls d σ H') (own.map (·.2)) σ H Q) := by
  refine ⟨fun pins s σ H Q I h => ?_⟩
  rw [eval_ListComp]
  refine lc_coreX (W := W) (te := te fun cls d _ H' => W cls d σ H') hs2 hf2 tk hc hN I hi ok hg ht (fun s H C cl fp pn xe p => he s H C cl fp pn xe _ p) hs h fun D C s' m H' I' q hn f => ⟨m, hn, fun h'' sb => ?_⟩
  obtain ⟨f0, f1, f2, f3, f4, f5⟩ := f
  exact ⟨.ref D, H', I'.turned (t' := s'.toks) (fun b o hb e => (sb.2 b hb).trans e) f0 f1 f3 f4 f5, rfl, q⟩
end
end L3

/-! L3Z: what raises, by data. -/
namespace L3
open PySem PySem.Spec PyProof.Rows L2
inductive ValX where
  | val (env : MEnv) (r : RV)
  | ex (c : Str) (env : MEnv)
abbrev MX := MEnv → Option ValX
inductive OutX where
  | of (o : Out)
  | ex (c : Str) (env : MEnv)
abbrev MSX := MEnv → Option OutX
inductive ResX where
  | val (r : RV)
  | ex (c : Str)
abbrev CFX := List SV → Option (List SV × ResX)
abbrev Mg := Str → Option Value
def ExK (K : PySem.W.Frag) (mg : Mg) (W : L2.WX) (F H : Hp) (σ : L2.St) (env : MEnv) (c : Str) (e : MEnv) : Prop := ∀ cv, mg c = some cv → ∀ σ' F' H', Abs K F' H' σ' e → Frm F H σ env F' H' σ' e → W cv none σ' H'
def ExV (K : PySem.W.Frag) (mg : Mg) (W : L2.WX) (F H : Hp) (σ : L2.St) (env : MEnv) (c : Str) (e : MEnv) : Prop := ∀ cv, mg c = some cv → ∀ F' H', Abs K F' H' σ e → Frm F H σ env F' H' σ e → W cv none σ H'
def tX (K : PySem.W.Frag) (mg : Mg) (W : L2.WX) (m : MX) : TE := fun σ H Q => ∃ F env, Abs K F H σ env ∧
  ((∃ env' r, m env = some (.val env' r) ∧ ∀ v F' H', Abs K F' H' σ env' → Frm F H σ env F' H' σ env' → r.ok K F' H' σ env' v → r.isNew H v → Q v H') ∨
    ∃ c e, m env = some (.ex c e) ∧ ExV K mg W F H σ env c e)
def tSX (K : PySem.W.Frag) (mg : Mg) (W : L2.WX) (m : MSX) : TS := fun D σ H => ∃ F env, Abs K F H σ env ∧ ((∃ o, m env = some (.of o) ∧ OutK K F H σ env D o) ∨ ∃ c e, m env = some (.ex c e) ∧ ExK K mg W F H σ env c e)
/-- the values alone -/
def valOf (mx : MX) : ME := fun env => (mx env).bind fun o => match o with
  | .val e r => some (e, r)
  | .ex _ _ => none
def dropX (m : MSX) : MS := fun env => (m env).bind fun o => match o with
  | .of o => some o
  | .ex _ _ => none
section
variable {K : PySem.W.Frag} {mg : Mg} {W : L2.WX} {F H F1 H1 : Hp} {σ σ1 : L2.St} {env env1 : MEnv} {Q : VK} {mx : MX} {c : Str} {e : MEnv}
theorem ExK.back (h : ExK K mg W F H σ env c e) (f : Frm F H σ env F1 H1 σ1 env1) : ExK K mg W F1 H1 σ1 env1 c e := fun cv hm σ' F' H' A' f' => h cv hm σ' F' H' A' (f.trans f')
theorem ExV.back (h : ExV K mg W F H σ env c e) (f : Frm F H σ env F1 H1 σ env1) : ExV K mg W F1 H1 σ env1 c e := fun cv hm F' H' A' f' => h cv hm F' H' A' (f.trans f')
theorem ExK.v (h : ExK K mg W F H σ env c e) : ExV K mg W F H σ env c e := fun cv hm F' H' A' f' => h cv hm σ F' H' A' f'
theorem tX_val (h : tE K (valOf mx) σ H Q) : tX K mg W mx σ H Q := by
  obtain ⟨F, env, A, env', r, em, k⟩ := h
  obtain ⟨o, e1, em⟩ := bind_some em
  cases o with
  | val e r' => cases em; exact ⟨F, env, A, .inl ⟨_, _, e1, k⟩⟩
  | ex c e => cases em
theorem tX_ex (A : Abs K F H σ env) (em : mx env = some (.ex c e)) (k : ExV K mg W F H σ env c e) : tX K mg W mx σ H Q := ⟨F, env, A, .inr ⟨c, e, em, k⟩⟩
theorem valOf_val {r : RV} (h : mx env = some (.val e r)) : valOf mx env = some (e, r) := by
  unfold valOf
  rw [h]
  rfl
end
/-! ### what an operation does behind a value, or lets through -/
/-- m, with mx evaluated first -/
def xSt (f : ME → MS) (mx : MX) : MSX := fun env => (mx env).bind fun o => match o with
  | .ex c e => some (.ex c e)
  | .val _ _ => (f (valOf mx) env).bind fun o => some (.of o)
def xEx (f : ME → ME) (mx : MX) : MX := fun env => (mx env).bind fun o => match o with
  | .ex c e => some (.ex c e)
  | .val _ _ => (f (valOf mx) env).bind fun p => some (.val p.1 p.2)
def xLift (m : ME) : MX := fun env => (m env).bind fun p => some (.val p.1 p.2)
def xOf (m : MS) : MSX := fun env => (m env).bind fun o => some (.of o)
section
variable {K : PySem.W.Frag} {mg : Mg} {W : L2.WX} {H : Hp} {σ : L2.St} {D : Ends} {Q : VK} {mx : MX}
theorem xSt_split {f : ME → MS} (h : tSX K mg W (xSt f mx) D σ H) : tS K (f (valOf mx)) D σ H ∨ ∃ F env, Abs K F H σ env ∧ ∃ c e, mx env = some (.ex c e) ∧ ExV K mg W F H σ env c e := by
  obtain ⟨F, env, A, ⟨o, em, k⟩ | ⟨c, e, em, k⟩⟩ := h
  · obtain ⟨o1, e1, em⟩ := bind_some em
    cases o1 with
    | ex c e => cases em
    | val e r =>
      obtain ⟨o2, e2, em⟩ := bind_some em
      cases em
      exact .inl ⟨F, env, A, _, e2, k⟩
  · obtain ⟨o1, e1, em⟩ := bind_some em
    cases o1 with
    | ex c e => cases em; exact .inr ⟨F, env, A, _, _, e1, k.v⟩
    | val e r =>
      obtain ⟨o2, e2, em⟩ := bind_some em
      cases em
theorem xEx_split {f : ME → ME} (h : tX K mg W (xEx f mx) σ H Q) : tE K (f (valOf mx)) σ H Q ∨ ∃ F env, Abs K F H σ env ∧ ∃ c e, mx env = some (.ex c e) ∧ ExV K mg W F H σ env c e := by
  obtain ⟨F, env, A, ⟨e', r', em, k⟩ | ⟨c, e, em, k⟩⟩ := h
  · obtain ⟨o1, e1, em⟩ := bind_some em
    cases o1 with
    | ex c e => cases em
    | val e r =>
      obtain ⟨o2, e2, em⟩ := bind_some em
      cases em
      exact .inl ⟨F, env, A, _, _, e2, k⟩
  · obtain ⟨o1, e1, em⟩ := bind_some em
    cases o1 with
    | ex c e => cases em; exact .inr ⟨F, env, A, _, _, e1, k⟩
    | val e r =>
      obtain ⟨o2, e2, em⟩ := bind_some em
      cases em
end
section
variable {X : Cx} {W : L2.WX} {st : Stmt} {rest : List Stmt} {e : Expr} {pos : Pos} {mx : MX} {me : ME} {mt : MT} {m n : MSX} {ms : MS}
theorem rx_lift (h : PE X e (tE X.K me)) : PE X e (tX X.K X.mg W (xLift me)) := pe_imp h fun σ H Q ⟨F, env, A, q⟩ => by
  rcases q with ⟨env', r, em, k⟩ | ⟨c, e, em, k⟩
  · obtain ⟨p, e1, em⟩ := bind_some em
    cases em
    exact ⟨F, env, A, _, _, e1, k⟩
  · obtain ⟨p, e1, em⟩ := bind_some em
    cases em
theorem rxs_of (h : PS X st (tS X.K ms)) : PS X st (tSX X.K X.mg W (xOf ms)) := ps_imp h fun D σ H ⟨F, env, A, q⟩ => by
  rcases q with ⟨o, em, k⟩ | ⟨c, e, em, k⟩
  · obtain ⟨p, e1, em⟩ := bind_some em
    cases em
    exact ⟨F, env, A, _, e1, k⟩
  · obtain ⟨p, e1, em⟩ := bind_some em
    cases em
theorem rxss_of {b : List Stmt} (h : PSs X b (tS X.K ms)) : PSs X b (tSX X.K X.mg W (xOf ms)) := pss_imp h fun D σ H ⟨F, env, A, q⟩ => by
  rcases q with ⟨o, em, k⟩ | ⟨c, e, em, k⟩
  · obtain ⟨p, e1, em⟩ := bind_some em
    cases em
    exact ⟨F, env, A, _, e1, k⟩
  · obtain ⟨p, e1, em⟩ := bind_some em
    cases em
theorem rss_drop {b : List Stmt} (h : PSs X b (tSX X.K X.mg W m)) : PSs X b (tS X.K (dropX m)) := pss_imp h fun D σ H ⟨F, env, A, o, em, k⟩ => by
  obtain ⟨p, e1, em⟩ := bind_some em
  cases p with
  | of o => cases em; exact ⟨F, env, A, .inl ⟨_, e1, k⟩⟩
  | ex c e => cases em
/-! ### statements -/
def xSeq (m n : MSX) : MSX := fun env => (m env).bind fun o => match o with
  | .of (.nx e) => n e
  | o => some o
def xIf (t : MT) (a b : MSX) : MSX := fun env => (t env).bind fun p => if p.2 = true then a p.1 else b p.1
def xRaise (c : Str) : MSX := fun env => some (.ex c env)
theorem tSX_back {K : PySem.W.Frag} {mg : Mg} {F H F1 H1 : Hp} {σ σ1 : L2.St} {env env1 : MEnv} {D : Ends} {o : OutX} (em : m env1 = some o) (A1 : Abs K F1 H1 σ1 env1) (f : Frm F H σ env F1 H1 σ1 env1)
    (k : (∃ o', o = .of o' ∧ OutK K F H σ env D o') ∨ ∃ c e, o = .ex c e ∧ ExK K mg W F H σ env c e) : tSX K mg W m D σ1 H1 := by
  rcases k with ⟨o', rfl, k⟩ | ⟨c, e, rfl, k⟩
  · exact ⟨F1, env1, A1, .inl ⟨_, em, k.back f⟩⟩
  · exact ⟨F1, env1, A1, .inr ⟨_, _, em, k.back f⟩⟩
theorem tSX_cases {K : PySem.W.Frag} {mg : Mg} {H : Hp} {σ : L2.St} {D : Ends} (h : tSX K mg W m D σ H) : ∃ F env o, Abs K F H σ env ∧ m env = some o ∧ ((∃ o', o = .of o' ∧ OutK K F H σ env D o') ∨ ∃ c e, o = .ex c e ∧ ExK K mg W F H σ env c e) := by
  obtain ⟨F, env, A, ⟨o, em, k⟩ | ⟨c, e, em, k⟩⟩ := h
  · exact ⟨F, env, _, A, em, .inl ⟨_, rfl, k⟩⟩
  · exact ⟨F, env, _, A, em, .inr ⟨_, _, rfl, k⟩⟩
theorem rxs_cons (h1 : PS X st (tSX X.K X.mg W m)) (h2 : PSs X rest (tSX X.K X.mg W n)) : PSs X (st :: rest) (tSX X.K X.mg W (xSeq m n)) := pss_imp (pss_cons h1 h2) fun D σ H h => by
  obtain ⟨F, env, o, A, em, k⟩ := tSX_cases h
  obtain ⟨o1, e1, em⟩ := bind_some em
  cases o1 with
  | of o1 =>
    cases o1 with
    | nx e => exact ⟨F, env, A, .inl ⟨_, e1, fun σ1 F1 H1 A1 f1 => tSX_back em A1 f1 k⟩⟩
    | bk e =>
      cases em
      rcases k with ⟨o', e2, k⟩ | ⟨c, e, e2, k⟩ <;> cases e2
      exact ⟨F, env, A, .inl ⟨_, e1, k⟩⟩
    | ct e =>
      cases em
      rcases k with ⟨o', e2, k⟩ | ⟨c, e, e2, k⟩ <;> cases e2
      exact ⟨F, env, A, .inl ⟨_, e1, k⟩⟩
    | rt r e =>
      cases em
      rcases k with ⟨o', e2, k⟩ | ⟨c, e, e2, k⟩ <;> cases e2
      exact ⟨F, env, A, .inl ⟨_, e1, k⟩⟩
  | ex c e =>
    cases em
    rcases k with ⟨o', e2, k⟩ | ⟨c, e, e2, k⟩ <;> cases e2
    exact ⟨F, env, A, .inr ⟨_, _, e1, k⟩⟩
theorem rxs_one (h1 : PS X st (tSX X.K X.mg W m)) : PSs X [st] (tSX X.K X.mg W m) := pss_one h1
theorem rxs_if {c : Expr} {a b : List Stmt} (hc : PT X c (tT X.K mt)) (ha : PSs X a (tSX X.K X.mg W m)) (hb : PSs X b (tSX X.K X.mg W n)) : PS X (.If c a b pos) (tSX X.K X.mg W (xIf mt m n)) := ps_imp (ps_if hc ha hb) fun D σ H h => by
  obtain ⟨F, env, o, A, em, k⟩ := tSX_cases h
  obtain ⟨⟨env1, b1⟩, e1, em⟩ := bind_some em
  refine ⟨F, env, A, env1, b1, e1, fun F1 H1 A1 f1 => ?_⟩
  cases b1 with
  | true => exact tSX_back em A1 f1 k
  | false => exact tSX_back em A1 f1 k
theorem rxs_set {i : Nat} {x : Str} {pos' : Pos} (hN : X.N.Nodup) (hi : X.N[i]? = some x) (hx : Loc X.env.scope x) (he : PE X e (tX X.K X.mg W mx)) (hs : swapsWith e (some (.Name x pos')) pos.line X.env = pure false := by rfl) (hf : X.fn x = true ∨ X.env.scope.names.lookup x = some .local := by first | exact .inl rfl | exact .inr rfl | assumption) :
    PS X (.Assign [.Name x pos'] e pos) (tSX X.K X.mg W (xSt (sSet i) mx)) := ps_imp (ps_set hN hi hx he hs hf) fun D σ H h => by
  rcases xSt_split h with h | ⟨F, env, A, c, e, em, k⟩
  · exact tX_val (set_to h)
  · exact tX_ex A em k
theorem rxs_ret (he : PE X e (tX X.K X.mg W mx)) : PS X (.Return (some e) pos) (tSX X.K X.mg W (xSt sRet mx)) := ps_imp (ps_ret he) fun D σ H h => by
  rcases xSt_split h with h | ⟨F, env, A, c, e, em, k⟩
  · exact tX_val (ret_to h)
  · exact tX_ex A em k
theorem rxs_expr (he : PE X e (tX X.K X.mg W mx)) (hs : swapsWith e none pos.line X.env = pure false := by rfl) : PS X (.Expr e pos) (tSX X.K X.mg W (xSt sExpr mx)) := ps_imp (ps_expr he hs) fun D σ H h => by
  rcases xSt_split h with ⟨F, env, A, o, em, k⟩ | ⟨F, env, A, c, e, em, k⟩
  · obtain ⟨⟨env1, r⟩, e1, em⟩ := bind_some em
    cases em
    exact tX_val ⟨F, env, A, env1, r, e1, fun v F1 H1 A1 f1 _ _ => k σ F1 H1 A1 f1⟩
  · exact tX_ex A em k
theorem rxs_raise {c : Str} {C : Addr} {e : Expr} (hc : X.calm = true) (tk : Takes X W) (hm : X.mg c = some (.ref C)) (he : PMk X e (fun _ H Q => Q (.ref C) none H)) : PS X (.Raise (some e) none pos) (tSX X.K X.mg W (xRaise c)) := ps_imp (ps_raise hc tk he) fun D σ H ⟨F, env, A, q⟩ => by
  rcases q with ⟨o, em, k⟩ | ⟨c', e, em, k⟩
  · cases em
  · cases em
    exact k _ hm σ F H A (Frm.refl _ _ _ _)
end
end L3

/-! L4A: loops and calls that raise, by data; zip. -/
namespace L3
open PySem PySem.Spec PyProof.Rows L2
/-! ### zip of two tuples or of two lists -/
def zipD (as bs : List PyData) : List PyData := List.zipWith (fun a b => PyData.tuple [a, b]) as bs
def iZip (ms : MA) : MI := fun env => (ms env).bind fun p => (fixAll p.1 p.2).bind fun q => match q.2 with
  | [.tuple as, .tuple bs] => some (q.1, zipD as bs)
  | [.list as, .list bs] => some (q.1, zipD as bs)
  | _ => none
theorem zipD_length (as bs : List PyData) : (zipD as bs).length = min as.length bs.length := by unfold zipD; rw [List.length_zipWith]
theorem zipD_get {as bs : List PyData} {i : Nat} {d : PyData} (h : (zipD as bs)[i]? = some d) : ∃ a b, as[i]? = some a ∧ bs[i]? = some b ∧ d = .tuple [a, b] := by
  unfold zipD at h
  rw [List.getElem?_zipWith] at h
  cases e1 : as[i]? with
  | none => rw [e1] at h; cases e2 : bs[i]? <;> (rw [e2] at h; cases h)
  | some a =>
    cases e2 : bs[i]? with
    | none => rw [e1, e2] at h; cases h
    | some b => rw [e1, e2] at h; cases h; exact ⟨a, b, rfl, rfl, rfl⟩
theorem rpAll_get {K : PySem.W.Frag} {F : Hp} : ∀ {xs : List V} {ds : List PyData} {i : Nat} {x : V} {d : PyData}, RpAll K F xs ds → xs[i]? = some x → ds[i]? = some d → Rp K F x d
  | _, _, i, x, d, .nil, h, _ => by simp at h
  | _, _, 0, x, d, .cons h t, h1, h2 => by simp at h1 h2; subst h1 h2; exact h
  | _, _, i + 1, x, d, .cons h t, h1, h2 => rpAll_get t (i := i) (by simpa using h1) (by simpa using h2)
theorem zip_new {K : PySem.W.Frag} {F G H : Hp} {xs ys : List V} {as bs : List PyData} {i : Nat} {T : Addr} {x y : V} {d : PyData} (r : RpAll K F xs as) (r' : RpAll K F ys bs) (s : Same F G) (s' : Same G H) (hT : H T = none) (hx : xs[i]? = some x) (hy : ys[i]? = some y) (e : (zipD as bs)[i]? = some d) :
    ∃ G', Same G G' ∧ Same H (upd H T (.tup [x, y])) ∧ Same G' (upd H T (.tup [x, y])) ∧ (∀ a o, G' a = some o → G a = some o ∨ Lo H a) ∧ Rp K G' (.ref T) d := by
  obtain ⟨a, b, e1, e2, rfl⟩ := zipD_get e
  have gT : G T = none := s'.free hT
  have sG : Same G (upd G T (.tup [x, y])) := fun b o q => by rw [upd_ne (ne_of_none q gT)]; exact q
  refine ⟨upd G T (.tup [x, y]), sG, fun b o q => by rw [upd_ne (ne_of_none q hT)]; exact q, fun b o q => ?_, fun b o q => ?_, ?_⟩
  · by_cases hb : b = T
    · subst hb; rw [upd_same] at q ⊢; exact q
    · rw [upd_ne hb] at q ⊢; exact s' b o q
  · by_cases hb : b = T
    · subst hb; exact .inr (Lo.none hT)
    · rw [upd_ne hb] at q; exact .inl q
  · have sF : Same F (upd G T (.tup [x, y])) := s.trans sG
    exact .tup upd_same (.cons ((rpAll_get r hx e1).mono sF) (.cons ((rpAll_get r' hy e2).mono sF) .nil))
theorem it_zipT {K : PySem.W.Frag} {F : Hp} {a b : Addr} {xs ys : List V} {as bs : List PyData} (h : SqT K F a xs) (h' : SqT K F b ys) (r : RpAll K F xs as) (r' : RpAll K F ys bs) : ItOk K (RZ.ItzT K a b) F (zipD as bs) where
  stop := fun H s => ⟨xs, ys, sqt_mono s h, sqt_mono s h', by rw [zipD_length, r.length, r'.length]; omega⟩
  go := fun i H s hi => by
    rw [zipD_length] at hi
    have h1 : i < xs.length := by rw [r.length]; omega
    have h2 : i < ys.length := by rw [r'.length]; omega
    exact ⟨xs, ys, xs[i], ys[i], sqt_mono s h, sqt_mono s h', List.getElem?_eq_getElem h1, List.getElem?_eq_getElem h2⟩
  yld := fun i H G v H' d s s' q e => by
    obtain ⟨T, x, y, rfl, hT, rfl, hx, hy⟩ := q
    exact zip_new r r' s s' hT (hx xs (sqt_mono (s.trans s') h)) (hy ys (sqt_mono (s.trans s') h')) e
theorem it_zipL {K : PySem.W.Frag} {F : Hp} {a b : Addr} {xs ys : List V} {as bs : List PyData} (h : SqL K F a xs) (h' : SqL K F b ys) (r : RpAll K F xs as) (r' : RpAll K F ys bs) : ItOk K (Itz K a b) F (zipD as bs) where
  stop := fun H s => ⟨xs, ys, sql_mono s h, sql_mono s h', by rw [zipD_length, r.length, r'.length]; omega⟩
  go := fun i H s hi => by
    rw [zipD_length] at hi
    have h1 : i < xs.length := by rw [r.length]; omega
    have h2 : i < ys.length := by rw [r'.length]; omega
    exact ⟨xs, ys, xs[i], ys[i], sql_mono s h, sql_mono s h', List.getElem?_eq_getElem h1, List.getElem?_eq_getElem h2⟩
  yld := fun i H G v H' d s s' q e => by
    obtain ⟨T, x, y, rfl, hT, rfl, hx, hy⟩ := q
    exact zip_new r r' s s' hT (hx xs (sql_mono (s.trans s') h)) (hy ys (sql_mono (s.trans s') h')) e
section
variable {X : Cx} {ms : MA}
theorem ri_zip {e e2 : Expr} {p pos tpos : Pos} {elts : List Expr} {kk : Nat} (hg : Gl X "zip") (hm : X.mg "zip" = none) (ha : PA X [e, e2] (tAs X.K ms))
    (hs : starEach [e, e2] X.env = (false, eval e X.env) :: starEach [e2] X.env := by rfl) (hpl : (backTo pos (starEach [e2] X.env)).any (·.1) = false := by rfl) :
    PI X (.Tuple elts kk tpos) (.Call (.Name "zip" p) [e, e2] [] pos) (tIt X.K (iZip ms)) := by
  refine pi_imp (RZ.pi_zipA hg hm ha hs hpl) fun σ H R ⟨F, env, A, env', ds, em, k⟩ => ?_
  obtain ⟨⟨env1, rs⟩, e1, em⟩ := bind_some em
  obtain ⟨⟨env2, ds2⟩, e2, em⟩ := bind_some em
  refine ⟨F, env, A, env1, rs, e1, fun vs F1 H1 A1 f1 o1 n1 => ?_⟩
  obtain ⟨F2, A2, f2, r2, s2⟩ := fix_all A1 f1 o1 n1 e2
  split at em
  · rename_i as bs e3
    cases em
    cases (show ds2 = _ from e3)
    cases r2 with
    | cons ra r2 =>
    cases r2 with
    | cons rb r2 =>
    cases r2
    cases ra with
    | tup qa ra =>
    cases rb with
    | tup qb rb =>
    exact ⟨_, _, _, _, rfl, .inr ⟨SqT.of (A2.same _ _ qa), SqT.of (A2.same _ _ qb), k _ F2 H1 A2 f2 (it_zipT (SqT.of qa) (SqT.of qb) ra rb)⟩⟩
  · rename_i as bs e3
    cases em
    cases (show ds2 = _ from e3)
    cases r2 with
    | cons ra r2 =>
    cases r2 with
    | cons rb r2 =>
    cases r2
    cases ra with
    | lst qa ra =>
    cases rb with
    | lst qb rb =>
    exact ⟨_, _, _, _, rfl, .inl ⟨sql_mono A2.same qa, sql_mono A2.same qb, k _ F2 H1 A2 f2 (it_zipL qa qb ra rb)⟩⟩
  · cases em
end
/-! ### loops whose body may raise -/
def forLoopX (g : MG) (body : MSX) : List PyData → MEnv → Option OutX
  | [], env => some (.of (.nx env))
  | d :: ds, env => (g d env).bind fun e1 => (body e1).bind fun o => match o with
    | .of (.nx e) => forLoopX g body ds e
    | .of (.ct e) => forLoopX g body ds e
    | .of (.bk e) => some (.of (.nx e))
    | .of (.rt r e) => some (.of (.rt r e))
    | .ex c e => some (.ex c e)
def xFor (g : MG) (mi : MI) (body : MSX) : MSX := fun env => (mi env).bind fun p => forLoopX g body p.2 p.1
section
variable {K : PySem.W.Frag} {mg : Mg} {W : L2.WX} {m : MSX} {mi : MI} {g : MG} {is : List Nat}
def OutKX (K : PySem.W.Frag) (mg : Mg) (W : L2.WX) (F H : Hp) (σ : L2.St) (env : MEnv) (D : Ends) (o : OutX) : Prop := (∃ o', o = .of o' ∧ OutK K F H σ env D o') ∨ ∃ c e, o = .ex c e ∧ ExK K mg W F H σ env c e
theorem OutKX.back {F H F1 H1 : Hp} {σ σ1 : L2.St} {env env1 : MEnv} {D : Ends} {o : OutX} (h : OutKX K mg W F H σ env D o) (f : Frm F H σ env F1 H1 σ1 env1) : OutKX K mg W F1 H1 σ1 env1 D o := by
  rcases h with ⟨o', rfl, k⟩ | ⟨c, e, rfl, k⟩
  · exact .inl ⟨_, rfl, k.back f⟩
  · exact .inr ⟨_, _, rfl, k.back f⟩
theorem OutKX.of {F H : Hp} {σ : L2.St} {env : MEnv} {D : Ends} {o : Out} (h : OutKX K mg W F H σ env D (.of o)) : OutK K F H σ env D o := by
  rcases h with ⟨o', e, k⟩ | ⟨c, e, e2, k⟩
  · cases e; exact k
  · cases e2
theorem OutKX.ex {F H : Hp} {σ : L2.St} {env : MEnv} {D : Ends} {c : Str} {e : MEnv} (h : OutKX K mg W F H σ env D (.ex c e)) : ExK K mg W F H σ env c e := by
  rcases h with ⟨o', e, k⟩ | ⟨c, e, e2, k⟩
  · cases e
  · cases e2; exact k
theorem forX_to {D : Ends} {σ : L2.St} {H : Hp} (h : tSX K mg W (xFor g mi m) D σ H) : tFor (tIt K mi) (tG K is g) (tSX K mg W m) D σ H := by
  obtain ⟨F, env, o, A, em, k⟩ := tSX_cases h
  have k : OutKX K mg W F H σ env D o := k
  obtain ⟨⟨env1, ds⟩, e1, em⟩ := bind_some em
  refine ⟨F, env, A, env1, ds, e1, fun J F1 H1 A1 f1 it => ?_⟩
  refine ⟨fun i mm σ' H' => mm = ds.length - i ∧ i ≤ ds.length ∧ ∃ F' e', Abs K F' H' σ' e' ∧ Frm F1 H1 σ env1 F' H' σ' e' ∧ forLoopX g m (ds.drop i) e' = some o, ⟨ds.length, by omega, Nat.zero_le _, F1, env1, A1, Frm.refl _ _ _ _, em⟩, ?_⟩
  rintro i mm σ' H' ⟨rfl, hle, F', e', A', f', el⟩
  have k' := (k.back f1).back f'
  have sF1 : Same F1 H' := f'.sameF.trans A'.same
  by_cases hlt : i < ds.length
  · have hd : ds[i]? = some ds[i] := List.getElem?_eq_getElem hlt
    rw [List.drop_eq_getElem_cons hlt] at el
    obtain ⟨ea, g1, el⟩ := bind_some el
    obtain ⟨ob, g2, el⟩ := bind_some el
    refine .inr ⟨it.go i H' sF1 hlt, fun σ3 H3 => ∃ F3 e3, Abs K F3 H3 σ3 e3 ∧ Frm F1 H1 σ env1 F3 H3 σ3 e3 ∧ forLoopX g m (ds.drop (i + 1)) e3 = some o, fun σ3 H3 ⟨F3, e3, q⟩ => ⟨ds.length - (i + 1), by omega, rfl, hlt, F3, e3, q⟩, fun x H3 hy => ?_⟩
    obtain ⟨G, sG, sH, sGH, nG, rG⟩ := it.yld i H' F' x H3 ds[i] f'.sameF A'.same hy hd
    obtain ⟨A3, f3⟩ := grow A' sG sH sGH nG
    refine ⟨G, e', ds[i], A3, rG, ea, g1, fun σ4 F4 H4 A4 f4 _ => ?_⟩
    have ff := f3.trans f4
    cases ob with
    | of ob =>
      refine ⟨F4, ea, A4, .inl ⟨ob, g2, ?_⟩⟩
      cases ob with
      | nx e => exact fun σ5 F5 H5 A5 f5 => ⟨F5, e, A5, (f'.trans ff).trans f5, el⟩
      | ct e => exact fun σ5 F5 H5 A5 f5 => ⟨F5, e, A5, (f'.trans ff).trans f5, el⟩
      | bk e => cases el; exact fun σ5 F5 H5 A5 f5 => k'.of σ5 F5 H5 A5 (ff.trans f5)
      | rt r e => cases el; exact k'.of.back ff
    | ex c e =>
      cases el
      exact ⟨F4, ea, A4, .inr ⟨c, e, g2, k'.ex.back ff⟩⟩
  · have ei : i = ds.length := by omega
    subst ei
    rw [List.drop_length] at el
    cases el
    exact .inl ⟨it.stop H' sF1, k'.of σ' F' H' A' (Frm.refl _ _ _ _)⟩
end
theorem rxs_for {X : Cx} {W : L2.WX} {pos : Pos} {m : MSX} {mi : MI} {g : MG} {is : List Nat} {tg iter : Expr} {body : List Stmt} (hp : PassesOwn (model X.prog X.w) X.A X.env X.xe) (hc : X.calm = true) (hi : PI X tg iter (tIt X.K mi)) (hg : PG X tg (tG X.K is g)) (hb : PSs X body (tSX X.K X.mg W m))
    (hs : ∀ x, foldedSetIterable iter X.env x = pure x := by intro _; rfl) : PS X (.For tg iter body [] pos) (tSX X.K X.mg W (xFor g mi m)) := ps_imp (ps_for hp hc hi hg hb hs) fun _ _ _ => forX_to
/-! ### try: body, except x: suite -/
def xTry (hs : List (Str × Bool)) (m : MSX) (s : MS) : MSX := fun env => (m env).bind fun o => match o with
  | .of o => some (.of o)
  | .ex c e => (hs.lookup c).bind fun b => if b = true then (s e).bind fun o => some (.of o) else some (.ex c e)
section
variable {X : Cx} {x c : Str} {C : Value} {body suite : List Stmt} {b₀ : Stmt} {np pos pos' : Pos} {m : MSX} {s : MS} {W : L2.WX} {hs : List (Str × Bool)}
theorem mem_of_look : ∀ {hs : List (Str × Bool)} {c : Str} {b : Bool}, hs.lookup c = some b → (c, b) ∈ hs
  | (d, b') :: hs, c, b, h => by
    by_cases e : c = d
    · subst e
      simp [List.lookup_cons] at h
      subst h
      exact List.mem_cons_self
    · rw [List.lookup_cons, beq_eq_false_iff_ne.mpr e] at h
      exact List.mem_cons_of_mem _ (mem_of_look h)
theorem rxs_try (hst : X.stack = X.env :: X.outer) (hf : X.env.frame = some X.env.locals) (hc : Names X x C) (tk : Takes X W) (hh : ∀ p ∈ hs, ∀ cv, X.mg p.1 = some cv → PySem.W.exmOne X.K cv C = some p.2)
    (hb : ∀ (W : L2.WX) (pn : List (Addr × Obj)) (xe : Value → Shared → Prop), Takes (X.tr pn xe) W → PassesOwn (model X.prog X.w) X.A X.env xe → PSs (X.tr pn xe) body (tSX X.K X.mg W m))
    (hsu : ∀ (a : Addr) (pn : List (Addr × Obj)), PSs (X.suite a pn) (b₀ :: suite) (tS X.K s)) :
    PS X (.Try body [.ExceptHandler (some (.Name x np)) none (b₀ :: suite) pos'] [] [] pos) (tSX X.K X.mg W (xTry hs m s)) := ps_imp (ps_try_only (tb := fun W => tSX X.K X.mg W m) (ts := fun _ _ _ => tS X.K s) hst hf hc tk hb fun a oe cls d pn _ _ => hsu a _) fun D σ H h => by
  obtain ⟨F, env, o, A, em, k⟩ := tSX_cases h
  have k : OutKX X.K X.mg W F H σ env D o := k
  obtain ⟨o1, e1, em⟩ := bind_some em
  cases o1 with
  | of o1 =>
    cases em
    exact ⟨F, env, A, .inl ⟨_, e1, k.of⟩⟩
  | ex c e =>
    obtain ⟨b, e2, em⟩ := bind_some em
    refine ⟨F, env, A, .inr ⟨c, e, e1, fun cv hm σ' F' H' A' f' => ⟨b, hh _ (mem_of_look e2) cv hm, fun hbt a na => ?_, fun hbf => ?_⟩⟩⟩
    · subst hbt
      have em' : ((s e).bind fun o => some (OutX.of o)) = some o := em
      obtain ⟨o2, e3, em'⟩ := bind_some em'
      cases em'
      exact ⟨F', e, A', o2, e3, k.of.back f'⟩
    · subst hbf
      have em' : some (OutX.ex c e) = some o := em
      cases em'
      exact k.ex cv hm σ' F' H' A' f'
end
end L3

/-! L4B: expressions that raise, by data; defs that raise. -/
namespace L3
open PySem PySem.Spec PyProof.Rows L2
section
variable {K : PySem.W.Frag} {mg : Mg} {W : L2.WX} {H : Hp} {σ : L2.St} {m : ME} {mx me : MX}
theorem args1 {Q : List V → Hp → Prop} (h : tAs K (aCons m aNil) σ H Q) : tE K m σ H fun v H1 => Q [v] H1 := by
  obtain ⟨F, env, A, env', rs, em, k⟩ := h
  obtain ⟨⟨env1, r1⟩, e1, em⟩ := bind_some em
  obtain ⟨⟨env2, r2⟩, e2, em⟩ := bind_some em
  cases e2
  cases em
  refine ⟨F, env, A, env1, r1, e1, fun v F1 H1 A1 f1 o1 n1 => k [v] F1 H1 A1 f1 ⟨o1, trivial, fun h hm => ?_⟩ fun w hw => ?_⟩
  · cases hm
  · cases r1 with
    | own d =>
      rcases List.mem_cons.mp hw with rfl | hw
      · exact n1
      · cases hw
    | fz d => cases hw
    | plc i => cases hw
/-- the three kinds of what is walked -/
def three (K : PySem.W.Frag) (tl : TE) : TI := fun σ H R => tl σ H fun x H1 => (∃ a, x = .ref a ∧ (∃ xs, SqL K H1 a xs) ∧ R (Itl K a) H1) ∨ (∃ a, x = .ref a ∧ (∃ xs, SqT K H1 a xs) ∧ R (Itt K a) H1) ∨ ∃ z, x = .str z ∧ R (Its z) H1
theorem any_to {R : It → Hp → Prop} (h : tIt K (iAny m) σ H R) : three K (tE K m) σ H R := by
  obtain ⟨F, env, A, env', ds, em, k⟩ := h
  obtain ⟨⟨env1, r⟩, e1, em⟩ := bind_some em
  obtain ⟨⟨env2, d⟩, e2, em⟩ := bind_some em
  refine ⟨F, env, A, env1, r, e1, fun v F1 H1 A1 f1 o1 n1 => ?_⟩
  obtain ⟨F2, A2, f2, r2, s2⟩ := fix_one A1 f1 o1 n1 e2
  split at em
  · rename_i ds' e3
    cases em
    have e3' : d = .list ds := e3
    subst e3'
    cases r2 with
    | lst q r => exact .inl ⟨_, rfl, ⟨_, sql_mono A2.same q⟩, k _ F2 H1 A2 f2 (it_list q r)⟩
  · rename_i ds' e3
    cases em
    have e3' : d = .tuple ds := e3
    subst e3'
    cases r2 with
    | tup q r => exact .inr (.inl ⟨_, rfl, ⟨_, SqT.of (A2.same _ _ q)⟩, k _ F2 H1 A2 f2 (it_tup (SqT.of q) r)⟩)
  · rename_i x e3
    cases em
    have e3' : d = .str x := e3
    subst e3'
    cases r2
    exact .inr (.inr ⟨x, rfl, k _ F2 H1 A2 f2 (it_text x)⟩)
  · cases em
end
theorem three_val {K : PySem.W.Frag} {mg : Mg} {W : L2.WX} {H : Hp} {σ : L2.St} {mx : MX} {R : It → Hp → Prop} (h : three K (tE K (valOf mx)) σ H R) : three K (tX K mg W mx) σ H R := tX_val h
/-! ### a comprehension whose element, or what it walks, may raise -/
inductive LcR where
  | val (env : MEnv) (acc : List PyData)
  | ex (c : Str) (env : MEnv)
def lcLoopX (g : MG) (me : MX) (vs : List Nat) : List PyData → MEnv → List PyData → Option LcR
  | [], env, acc => some (.val env acc)
  | d :: ds, env, acc => (g d env).bind fun env1 => (me env1).bind fun o => match o with
    | .ex c e => some (.ex c (wipeE e vs))
    | .val e r => (r.fix e).bind fun s => if acc.length < lineN then lcLoopX g me vs ds (wipeE s.1 vs) (acc ++ [s.2]) else none
def xLc (vs : List Nat) (g : MG) (mx me : MX) : MX := fun env => (mx env).bind fun o => match o with
  | .ex c e => some (.ex c e)
  | .val _ _ => (iAny (valOf mx) env).bind fun p => if unlocked p.1 vs = true then (lcLoopX g me vs p.2 (wipeE p.1 vs) []).bind fun q => match q with
      | .val e acc => some (.val (backE p.1 e vs) (.own (.list acc)))
      | .ex c e => some (.ex c (backE p.1 e vs))
    else none
theorem lcX_to {K : PySem.W.Frag} {mg : Mg} {W : L2.WX} {vs is : List Nat} {g : MG} {mx m : MX} (hi : ∀ j ∈ is, j ∈ vs) {σ : L2.St} {H : Hp} {Q : VK} (h : tX K mg W (xLc vs g mx m) σ H Q) :
    tLc (three K (tX K mg W mx)) (tG K is g) (tT K mYes) (tX K mg (fun c d _ H' => W c d σ H') m) vs σ H Q := by
  obtain ⟨F, env, A, h⟩ := h
  obtain ⟨o, em, k⟩ : ∃ o, xLc vs g mx m env = some o ∧ ((∃ env' r, o = .val env' r ∧ ∀ v F' H', Abs K F' H' σ env' → Frm F H σ env F' H' σ env' → r.ok K F' H' σ env' v → r.isNew H v → Q v H') ∨ ∃ c e, o = .ex c e ∧ ExV K mg W F H σ env c e) := by
    rcases h with ⟨e', r, em, k⟩ | ⟨c, e, em, k⟩
    · exact ⟨_, em, .inl ⟨_, _, rfl, k⟩⟩
    · exact ⟨_, em, .inr ⟨_, _, rfl, k⟩⟩
  obtain ⟨o1, e0, em⟩ := bind_some em
  cases o1 with
  | ex c e =>
    cases em
    rcases k with ⟨e', r, e1, k⟩ | ⟨c', e', e1, k⟩
    · cases e1
    · cases e1
      exact ⟨F, env, A, .inr ⟨_, _, e0, k⟩⟩
  | val e0' r0 =>
  obtain ⟨⟨env1, ds⟩, e1, em⟩ := bind_some em
  split at em
  case isFalse => cases em
  rename_i hun
  obtain ⟨res, e2, em⟩ := bind_some em
  unfold tLc
  refine three_val (any_to ⟨F, env, A, env1, ds, e1, fun J F1 H1 A1 f1 it D hD => ?_⟩)
  have A0 : Abs K F1 H1 (wipe σ vs) (wipeE env1 vs) := abs_wipe A1 vs
  have fD : F1 D = none := A1.same.free hD
  have sD : Same H1 (upd H1 D (.lst [])) := fun b o q => by rw [upd_ne (ne_of_none q hD)]; exact q
  obtain ⟨A0', f0'⟩ := grow A0 (Same.refl F1) sD (A1.same.trans sD) fun _ _ h => .inl h
  have nD0 : ¬ Owns (wipe σ vs) (wipeE env1 vs) D := fun z => by
    obtain ⟨_, o, ho⟩ := A0.ownsF z
    rw [hD] at ho; cases ho
  refine ⟨fun i mm H' => mm = ds.length - i ∧ i ≤ ds.length ∧ ∃ (F' : Hp) (e' : MEnv) (acc : List PyData) (xs : List V), Abs K F' H' (wipe σ vs) e' ∧ Frm F1 H1 (wipe σ vs) (wipeE env1 vs) F' H' (wipe σ vs) e' ∧
    H' D = some (.lst xs) ∧ F' D = none ∧ RpAll K F' xs acc ∧ ¬ Owns (wipe σ vs) e' D ∧ lcLoopX g m vs (ds.drop i) e' acc = some res, ⟨ds.length, by omega, Nat.zero_le _, F1, wipeE env1 vs, [], [], A0', f0', upd_same, fD, .nil, nD0, e2⟩, ?_⟩
  rintro i mm H' ⟨rfl, hle, F', e', acc, xs, A', f', hx, fx, rx, nx, el⟩
  have sF1 : Same F1 H' := f'.sameF.trans A'.same
  by_cases hlt : i < ds.length
  · have hd : ds[i]? = some ds[i] := List.getElem?_eq_getElem hlt
    have edrop : ds.drop i = ds[i] :: ds.drop (i + 1) := List.drop_eq_getElem_cons hlt
    rw [edrop] at el
    obtain ⟨ea, g1, el⟩ := bind_some el
    obtain ⟨oe, g2, el⟩ := bind_some el
    refine .inr ⟨it.go i H' sF1 hlt, fun H3 => ∃ (F' : Hp) (e' : MEnv) (acc : List PyData) (xs : List V), Abs K F' H3 (wipe σ vs) e' ∧ Frm F1 H1 (wipe σ vs) (wipeE env1 vs) F' H3 (wipe σ vs) e' ∧
      H3 D = some (.lst xs) ∧ F' D = none ∧ RpAll K F' xs acc ∧ ¬ Owns (wipe σ vs) e' D ∧ lcLoopX g m vs (ds.drop (i + 1)) e' acc = some res, fun H3 q => ⟨ds.length - (i + 1), by omega, rfl, hlt, q⟩, fun x H3 hy => ?_⟩
    obtain ⟨G, sG, sH, sGH, nG, rG⟩ := it.yld i H' F' x H3 ds[i] f'.sameF A'.same hy hd
    obtain ⟨A3, f3⟩ := grow A' sG sH sGH nG
    have keepD : ∀ {F4 H4 : Hp} {σ4 : L2.St} {e4 : MEnv}, Frm F' H' (wipe σ vs) e' F4 H4 σ4 e4 → H4 D = some (.lst xs) ∧ F4 D = none ∧ RpAll K F4 xs acc ∧ ¬ Owns σ4 e4 D := fun {F4 H4 σ4 e4} ff => by
      refine ⟨ff.keep D _ hx nx, ?_, rx.mono ff.sameF, fun z => ?_⟩
      · cases q : F4 D with
        | none => rfl
        | some u =>
          rcases ff.new D u q with z | z | z
          · rw [fx] at z; cases z
          · exact (z.lst hx).elim
          · exact (nx z).elim
      · rcases ff.own D z with z | z
        · exact nx z
        · rw [hx] at z; cases z
    refine ⟨G, e', ds[i], A3, rG, ea, g1, fun σ4 F4 H4 A4 f4 o4 => ⟨wipe_off o4 hi, F4, ea, A4, ea, true, rfl, fun F5 H5 A5 f5 => ?_⟩⟩
    have hw := wipe_off o4 hi
    have ff5 := (f3.trans f4).trans f5
    refine ite2 (fun _ => ?_) fun z => (z rfl).elim
    cases oe with
    | ex c e =>
      cases el
      refine ⟨F5, ea, A5, .inr ⟨c, e, g2, fun cv hm F6 H6 A6 f6 => ?_⟩⟩
      have A8 := abs_wipe A6 vs
      rw [hw] at A8
      obtain ⟨A9, f9⟩ := block_back A1 hun A8 (frm_wipe (f'.trans (ff5.trans f6)) hw)
      cases em
      rcases k with ⟨e', r, e1, k⟩ | ⟨c', e', e1, k⟩
      · cases e1
      · cases e1
        exact k cv hm F6 H6 A9 (f1.trans f9)
    | val ec r =>
      have el' : ((r.fix ec).bind fun s => if acc.length < lineN then lcLoopX g m vs (ds.drop (i + 1)) (wipeE s.1 vs) (acc ++ [s.2]) else none) = some res := el
      obtain ⟨⟨ed, d'⟩, g4, el'⟩ := bind_some el'
      split at el'
      case isFalse => cases el'
      rename_i hz
      refine ⟨F5, ea, A5, .inl ⟨ec, r, g2, fun y F6 H6 A6 f6 o6 n6 => ?_⟩⟩
      have ff6 := ff5.trans f6
      obtain ⟨F7, A7, f7, r7, s7⟩ := fix_one A6 ff6 o6 (n6.fwd ff5.there) g4
      obtain ⟨d1, d2, d3, d4⟩ := keepD f7
      have hlen : xs.length < sizeLine := by rw [d3.length, ← lineN_eq]; exact hz
      refine ⟨xs, d1, hlen, ?_⟩
      have A8 := abs_wipe (abs_other (o := .lst (xs ++ [y])) A7 d2 d4) vs
      rw [hw] at A8
      refine ⟨F7, wipeE ed vs, acc ++ [d'], xs ++ [y], A8, frm_other (frm_wipe (f'.trans f7) hw) hD, upd_same, d2, d3.append (.cons r7 .nil), fun z => d4 (owns_wipe (by rw [hw]; exact z)), el'⟩
  · have ei : i = ds.length := by omega
    subst ei
    rw [List.drop_length] at el
    cases el
    cases em
    rcases k with ⟨e9', r9, e9, k⟩ | ⟨c9, e9', e9, k⟩
    case inr => cases e9
    cases e9
    obtain ⟨A9, f9⟩ := block_back A1 hun A' f'
    refine .inl ⟨it.stop H' sF1, k (.ref D) F' H' A9 (f1.trans f9) ⟨D, rfl, fx, ⟨xs, hx, rx⟩, fun zz => ?_⟩ ⟨D, rfl, ?_⟩⟩
    · rcases f9.own D zz with z | z
      · obtain ⟨_, o, ho⟩ := A1.ownsF z
        rw [hD] at ho; cases ho
      · obtain ⟨j, x, d, h1, h2, h3⟩ := zz
        by_cases hj : j ∈ vs
        · have e9 := backE_in hj x h1 (by rw [f'.len, wipeE_length])
          obtain ⟨_, o, ho⟩ := A1.ownsF ⟨j, x, d, e9, h2, h3⟩
          rw [hD] at ho; cases ho
        · rw [backE_out hj] at h1
          exact nx ⟨j, x, d, h1, h2, by rw [wipe_out hj]; exact h3⟩
    · cases q : H D with
      | none => rfl
      | some u =>
        obtain ⟨o, h1⟩ := f1.there D u q
        rw [hD] at h1; cases h1

section
variable {X : Cx} {W : L2.WX} {x : Str} {e : Expr} {p pos : Pos} {mx me : MX} {fc : List PyData → Option RV} {T : String}
/-- f(e) of a built-in type, where e may raise -/
theorem rx_callTy {p : Pos} (hc : CallR X (.type T) (rCall X.K fc)) (hg : Gl X x) (hm : X.mg x = none) (hv : bootBuiltins x = some (.type T)) (he : PE X e (tX X.K X.mg W mx)) (hn : x ≠ "__name__" := by decide) (hdb : (x == ("__debug__" : Str)) = false := by decide)
    (h1 : starEach [e] X.env = (false, eval e X.env) :: starEach [] X.env := by rfl) (hpl : (backTo pos (starEach ([] : List Expr) X.env)).any (·.1) = false := by rfl) : PE X (.Call (.Name x p) [e] [] pos) (tX X.K X.mg W (xEx (fun m => eCall fc (aCons m aNil)) mx)) :=
  pe_imp (pe_callTy hc hg hm hv (pa_cons he pa_nil h1) hn hdb h1 hpl) fun σ H Q h => by
    rcases xEx_split h with h | ⟨F, env, A, c, e, em, k⟩
    · exact tX_val (args1 (call_to h))
    · exact tX_ex A em k
theorem pi_three' {tg l : Expr} {tl : TE} (hl : PE X l tl) : PI X tg l (three X.K tl) := pi_three hl
theorem rx_lc {elt tg iter : Expr} {scope : Scope} {own : List (Str × Nat)} {is : List Nat} {pos : Pos} {g : MG} (hs2 : X.stack = X.env :: X.outer) (hf2 : X.env.frame = some X.env.locals) (tk : Takes X W) (hc : X.calm = true) (hN : X.N.Nodup)
    (hi : PE X iter (tX X.K X.mg W mx)) (ok : BlkOk X.N X.env.scope scope own) (hv : ∀ j ∈ is, j ∈ own.map (·.2))
    (hg : ∀ (s : Shared) (H : Hp) (C : Addr) (cl : List (Str × Addr)) (fp : List Addr), PG (X.blk s H scope (compEnvC scope cl C X.env) fp) tg (tG X.K is g))
    (he : ∀ (s : Shared) (H : Hp) (C : Addr) (cl : List (Str × Addr)) (fp : List Addr) (pn : List (Addr × Obj)) (xe : Value → Shared → Prop) (Wb : L2.WX), (∀ σb, PassesAt (L2.CX X.prog X.w) ((X.blk s H scope (compEnvC scope cl C X.env) fp).tr pn xe) σb (L2.WE Wb σb)) →
      PE ((X.blk s H scope (compEnvC scope cl C X.env) fp).tr pn xe) elt (tX X.K X.mg Wb me)) (hs : ∀ x, foldedSetIterable iter X.env x = pure x := by intro _; rfl) :
    PE X (.ListComp elt [⟨tg, iter, [], 0⟩] scope pos) (tX X.K X.mg W (xLc (own.map (·.2)) g mx me)) :=
  pe_imp (pe_lcX (te := fun Wb => tX X.K X.mg Wb me) hs2 hf2 tk hc hN (pi_three' hi) ok hg (fun s H C cl fp => rts_yes) he hs) fun _ _ _ h => lcX_to hv h
end
/-! ### defs that raise -/
/-- what a def promises that does as C says, or raises -/
def spX (n : Nat) (C : CFX) (K : PySem.W.Frag) (mg : Mg) : Sp := fun vs H Q E => ∃ F as, vs.length = n ∧ as.all SV.plain = true ∧ Abs K F H (mst vs) as ∧ ∃ bs o, C as = some (bs, o) ∧
  ((∃ r, o = .val r ∧ ∀ v F' H', Abs K F' H' (mst vs) bs → Frm F H (mst vs) as F' H' (mst vs) bs → r.ok K F' H' (mst vs) bs v → r.isNew H v → Q v H') ∨
    ∃ c, o = .ex c ∧ ∀ cv, mg c = some cv → ∀ F' H', Abs K F' H' (mst vs) bs → Frm F H (mst vs) as F' H' (mst vs) bs → E cv none H')
def runFX (n l : Nat) (body : MSX) : CFX := fun as => if as.length = n ∧ as.all SV.plain = true ∧ n ≤ l then
    (body (as.map SV.enter ++ List.replicate (l - n) SV.unb)).bind fun o => match o with
      | .of (.rt r e) => (exitAll as e).bind fun bs => match r with
        | .plc _ => none
        | r => some (bs, .val r)
      | .of (.nx e) => (exitAll as e).bind fun bs => some (bs, .val (.fz .none))
      | .ex c e => (exitAll as e).bind fun bs => some (bs, .ex c)
      | _ => none
  else none
theorem runFX_len {n l : Nat} {body : MSX} : ∀ as q, runFX n l body as = some q → as.length = n := fun as q h => by
  unfold runFX at h
  split at h
  · rename_i z; exact z.1
  · cases h
def xUser (C : CFX) (ms : MA) : MX := fun env => (ms env).bind fun p => (argSVs p.1 p.2).bind fun as => if apart p.2 = true ∧ as.all SV.plain = true then (C as).bind fun q => if q.1.all SV.plain = true then match q.2 with
      | .val (.plc _) => none
      | .val r => some (.val (backSVs p.2 q.1 0 p.1) r)
      | .ex c => some (.ex c (backSVs p.2 q.1 0 p.1))
    else none else none
section
variable {P : Program} {w : World} {K : PySem.W.Frag} {mg : Mg} {base : Heap}
theorem fnX_data {x qual : Str} {st : Stmt} {f : Addr} {fd : FuncData} {N ps : List Str} {k : Nat} {body : MSX} (G : Fun K x qual st f fd) (S : FnScope N ps (defScope st)) (hN : ps.length ≤ N.length)
    (hb : ∀ (cdv : Value) (A : Around) (outer : List Env) (s : Shared) (H : Hp) (E : XK), RoomG k (A.deeper (envOfC qual (defScope st) s.heap.objs.size f cdv)) → Takes (cxOf (L2.CX P w) P w K mg base N qual (defScope st) f cdv A outer s H E) (fun cls d _ H' => E cls d H') →
      PassesOwn (model P w) (cxOf (L2.CX P w) P w K mg base N qual (defScope st) f cdv A outer s H E).A (cxOf (L2.CX P w) P w K mg base N qual (defScope st) f cdv A outer s H E).env (cxOf (L2.CX P w) P w K mg base N qual (defScope st) f cdv A outer s H E).xe →
      PSs (cxOf (L2.CX P w) P w K mg base N qual (defScope st) f cdv A outer s H E) (defBody st) (tSX K mg (fun cls d _ H' => E cls d H') body)) :
    FnOkG P w K mg base (L2.CX P w) (k + 1) f fd ps (spX ps.length (runFX ps.length N.length body) K mg) := by
  refine fnG_of G S (fun vs H Q E h => ?_) (fun cdv A outer s H vs Q E hr h => ?_)
  · obtain ⟨F, as, hl, _⟩ := h
    exact hl
  · obtain ⟨F, as, hl, hp, A0, bs, o, hC, k0⟩ := h
    refine ⟨tSX K mg (fun cls d _ H' => E cls d H') body, hb cdv A outer s H E hr (takes_of rfl rfl rfl rfl) (passes_of rfl), ?_⟩
    unfold runFX at hC
    split at hC
    case isFalse => cases hC
    obtain ⟨o1, eo, hC⟩ := bind_some hC
    obtain ⟨A1, o1', u1⟩ := abs_entry (N := N) A0 hp hl hN
    refine ⟨F, _, A1, ?_⟩
    cases o1 with
    | ex c e =>
      obtain ⟨bs', ex, hC⟩ := bind_some hC
      cases hC
      rcases k0 with ⟨r, e0, k0⟩ | ⟨c', e0, k0⟩
      · cases e0
      cases e0
      refine .inr ⟨_, _, eo, fun cv hm σ' F' H' A' f' => ?_⟩
      obtain ⟨A2, f2, _⟩ := abs_exit A0 hp hl hN A' f' ex
      exact k0 cv hm F' H' A2 f2
    | of o1 =>
    refine .inl ⟨_, eo, ?_⟩
    cases o1 with
    | bk e => cases hC
    | ct e => cases hC
    | nx e =>
      obtain ⟨bs', ex, hC⟩ := bind_some hC
      cases hC
      rcases k0 with ⟨r, e0, k0⟩ | ⟨c', e0, k0⟩
      case inr => cases e0
      cases e0
      refine fun σ' F' H' A' f' => ?_
      obtain ⟨A2, f2, _⟩ := abs_exit A0 hp hl hN A' f' ex
      exact k0 .non F' H' A2 f2 Rp.non trivial
    | rt r' e =>
      obtain ⟨bs', ex, hC⟩ := bind_some hC
      refine fun v σ' F' H' A' f' ok rt => ?_
      obtain ⟨A2, f2, own2⟩ := abs_exit A0 hp hl hN A' f' ex
      cases r' with
      | plc i => cases hC
      | fz d =>
        cases hC
        rcases k0 with ⟨r, e0, k0⟩ | ⟨c', e0, k0⟩
        case inr => cases e0
        cases e0
        exact k0 v F' H' A2 f2 ok trivial
      | own d =>
        cases hC
        rcases k0 with ⟨r, e0, k0⟩ | ⟨c', e0, k0⟩
        case inr => cases e0
        cases e0
        obtain ⟨a, e1, e2, e3, e4⟩ := ok
        obtain ⟨a', e5, e6⟩ := rt
        rw [e1] at e5
        cases e5
        refine k0 v F' H' A2 f2 ⟨a, e1, e2, e3, fun z => e4 (own2 a z)⟩ ⟨a, e1, ?_⟩
        rcases e6 with z | z
        · exact (u1 a z).elim
        · exact z
end
section
variable {X : Cx} {k : Nat} {f : Addr} {fd : FuncData} {ps : List Str} {x : Str} {p pos : Pos} {e : Expr} {es : List Expr} {ms : MA} {C : CFX} {n : Nat} {W : L2.WX}
theorem pe_callSG {CX : CXT} {sp : Sp} {dvs : List V} {ds : List Value} {E : L2.St → XK} {t : TA} (F : FnOkG X.prog X.w X.K X.mg X.base CX k f fd ps sp) (hr : RoomG k X.A) (hg : Gl X x) (hm : X.mg x = some (.ref f)) (hk : PySem.W.keepIn X.K (.ref f) = true) (hb : Binds X.K fd ps ds) (hd : Vals dvs ds) (hx : ∀ σ, PassesAt CX X σ (E σ))
    (ha : PA X (e :: es) t) (hdb : (x == ("__debug__" : Str)) = false := by decide) (he : starEach (e :: es) X.env = (false, eval e X.env) :: starEach es X.env := by rfl) (hpl : (backTo pos (starEach es X.env)).any (·.1) = false := by rfl) :
    PE X (.Call (.Name x p) (e :: es) [] pos) (tCallSD sp dvs E t) := by
  constructor
  intro pins s σ H Q I h
  refine wpAny_Call_Name_kw (ld_glob I hg hm (PySem.W.callWith_K (h₀ := X.base) I.ok.mod.kin hk (thn (ha.run pos pins s σ H _ I h) ?_) he hpl) hdb)
  rintro us s1 ⟨vs, H1, I1, r, q⟩
  refine ⟨I1.kIn, ?_⟩
  have rr : Vals (vs ++ dvs) (us ++ ds) := r.append hd
  have hl : (us ++ ds).length = ps.length := rr.length.symm.trans (F.len _ _ _ _ q)
  refine wpAny_call (codeAny_mono (F.go X.A X.stack s1 H1 ⟨us, []⟩ (us ++ ds) (vs ++ dvs) Q (E σ) hr I1.env0 (hb s1 us I1.kIn hl) rr q) ?_)
  intro r s2 hq
  cases r with
  | error ex => exact hx σ pins H1 s1 ex s2 I1 hq
  | ok fl => cases fl with
    | ret u => exact I1.after hq
    | _ => exact (show False from hq).elim
theorem userX_to {K : PySem.W.Frag} {mg : Mg} {σ : L2.St} {H : Hp} {Q : VK} (hn : ∀ as q, C as = some q → as.length = n) (h : tX K mg W (xUser C ms) σ H Q) : tCallSD (spX n C K mg) [] (L2.WE W) (tAs K ms) σ H Q := by
  obtain ⟨F, env, A, h⟩ := h
  obtain ⟨o, em, kk⟩ : ∃ o, xUser C ms env = some o ∧ ((∃ env' r, o = .val env' r ∧ ∀ v F' H', Abs K F' H' σ env' → Frm F H σ env F' H' σ env' → r.ok K F' H' σ env' v → r.isNew H v → Q v H') ∨ ∃ c e, o = .ex c e ∧ ExV K mg W F H σ env c e) := by
    rcases h with ⟨e', r, em, k⟩ | ⟨c, e, em, k⟩
    · exact ⟨_, em, .inl ⟨_, _, rfl, k⟩⟩
    · exact ⟨_, em, .inr ⟨_, _, rfl, k⟩⟩
  obtain ⟨⟨env1, rs⟩, e1, em⟩ := bind_some em
  obtain ⟨as, e2, em⟩ := bind_some em
  split at em
  case isFalse => cases em
  rename_i hc
  obtain ⟨⟨bs, r1⟩, e3, em⟩ := bind_some em
  split at em
  case isFalse => cases em
  rename_i pb
  refine ⟨F, env, A, env1, rs, e1, fun vs F1 H1 A1 f1 o1 n1 => ?_⟩
  obtain ⟨Aa, Oa⟩ := args_abs A1 o1 e2 hc.1
  rw [List.append_nil]
  have hl : vs.length = n := by
    have := hn as _ e3
    rw [argSVs_length e2] at this
    rw [rvsOk.length o1]
    exact this
  refine ⟨F1, as, hl, hc.2, Aa, bs, r1, e3, ?_⟩
  cases r1 with
  | ex c =>
    refine .inr ⟨c, rfl, fun cv hm F' H' A2 f2 => ?_⟩
    obtain ⟨A3, f3⟩ := call_back A1 f1 o1 n1 e2 hc.1 A2 f2 pb
    cases em
    rcases kk with ⟨e', r, e0, kk⟩ | ⟨c', e', e0, kk⟩
    · cases e0
    · cases e0
      exact kk cv hm F' H' A3 f3
  | val r1 =>
  refine .inl ⟨r1, rfl, fun v F' H' A2 f2 ok nw => ?_⟩
  obtain ⟨A3, f3⟩ := call_back A1 f1 o1 n1 e2 hc.1 A2 f2 pb
  cases r1 with
  | plc i => cases em
  | fz d =>
    cases em
    rcases kk with ⟨e', r, e0, kk⟩ | ⟨c', e', e0, kk⟩
    case inr => cases e0
    cases e0
    exact kk v F' H' A3 f3 ok trivial
  | own d =>
    cases em
    rcases kk with ⟨e', r, e0, kk⟩ | ⟨c', e', e0, kk⟩
    case inr => cases e0
    cases e0
    obtain ⟨a, q1, q2, q3, q4⟩ := ok
    obtain ⟨a', g1, g2⟩ := nw
    rw [q1] at g1
    cases g1
    have h0 : H a = none := by
      cases q : H a with
      | none => rfl
      | some u =>
        obtain ⟨o, ho⟩ := f1.there a u q
        rw [g2] at ho; cases ho
    refine kk v F' H' A3 f3 ⟨a, q1, q2, q3, fun z => ?_⟩ ⟨a, q1, h0⟩
    obtain ⟨i, zz, dd, w1, w2, w3⟩ := z
    rw [backSVs_get, Nat.zero_add] at w1
    cases q : env1[i]? with
    | none => rw [q] at w1; cases w1
    | some y =>
      rw [q] at w1
      have ez : backAt rs bs i y = zz := Option.some.inj w1
      subst ez
      have ow : ∃ d', y.isOwn = some d' := by
        unfold backAt at w2
        split at w2
        · exact SV.back_own w2
        · exact ⟨dd, w2⟩
      obtain ⟨d', ow⟩ := ow
      obtain ⟨_, o, ho⟩ := A1.ownsF ⟨i, y, d', q, ow, w3⟩
      rw [g2] at ho; cases ho
theorem rx_user (hn : ∀ as q, C as = some q → as.length = n) (G : FnOkG X.prog X.w X.K X.mg X.base (L2.CX X.prog X.w) k f fd ps (spX n C X.K X.mg)) (hr : RoomG k X.A) (hg : Gl X x) (hm : X.mg x = some (.ref f)) (hk : PySem.W.keepIn X.K (.ref f) = true) (hb : Binds X.K fd ps [])
    (hx : ∀ σ, PassesAt (L2.CX X.prog X.w) X σ (L2.WE W σ)) (ha : PA X (e :: es) (tAs X.K ms)) (hdb : (x == ("__debug__" : Str)) = false := by decide) (he : starEach (e :: es) X.env = (false, eval e X.env) :: starEach es X.env := by rfl) (hpl : (backTo pos (starEach es X.env)).any (·.1) = false := by rfl) :
    PE X (.Call (.Name x p) (e :: es) [] pos) (tX X.K X.mg W (xUser C ms)) := pe_imp (pe_callSG G hr hg hm hk hb .nil hx ha hdb he hpl) fun _ _ _ => userX_to hn
end
end L3

/-! L4C: tables of the top, texts to numbers: D.get(e, f). -/
namespace L3
open PySem PySem.Spec PyProof.Rows L2
def entV (e : DictEntry) : Option (Str × Int) := match e.key, e.val with
  | .str x _, .int i _ => some (x, i)
  | _, _ => none
/-- what stands at d is the table kvs -/
structure TabK (K : PySem.W.Frag) (w : World) (d : Addr) (kvs : List (Str × Int)) : Prop where
  ex : ∃ es n, KDict K w d es n ∧ es.toList.map entV = kvs.map some
theorem tab_find : ∀ {l : List DictEntry} {kvs : List (Str × Int)}, l.map entV = kvs.map some → ∀ z : Str, (∃ t j, kvs.lookup z = some j ∧ findBy Value.isStrOf l.toArray z = some (.int j t)) ∨ (kvs.lookup z = none ∧ findBy Value.isStrOf l.toArray z = none)
  | [], [], _, z => .inr ⟨rfl, rfl⟩
  | [], _ :: _, h, _ => by cases h
  | _ :: _, [], h, _ => by cases h
  | e :: l, (k, i) :: kvs, h, z => by
    have h1 : entV e :: l.map entV = some (k, i) :: kvs.map some := h
    injection h1 with h2 h3
    have ih := tab_find h3 z
    obtain ⟨t1, t2, e1, e2⟩ : ∃ t1 t2, e.key = .str k t1 ∧ e.val = .int i t2 := by
      unfold entV at h2
      split at h2
      · rename_i x t1 j t2 q1 q2
        cases h2
        exact ⟨_, _, q1, q2⟩
      · cases h2
    have fb : findBy Value.isStrOf (e :: l).toArray z = if z = k then some e.val else findBy Value.isStrOf l.toArray z := by
      unfold findBy
      simp only [List.find?_toArray, List.find?_cons]
      have q : Value.isStrOf z e.key = decide (z = k) := by
        rw [e1]
        by_cases hz : z = k
        · subst hz; simp [Value.isStrOf]
        · rw [decide_eq_false hz]
          simp [Value.isStrOf]
          first | exact hz | exact fun w => hz w.symm
      rw [q]
      by_cases hz : z = k
      · simp [hz]
      · simp [hz]
    rw [fb, List.lookup_cons]
    by_cases hz : z = k
    · subst hz
      rw [if_pos rfl, e2]
      exact .inl ⟨t2, i, by simp, rfl⟩
    · rw [if_neg hz, beq_eq_false_iff_ne.mpr hz]
      exact ih
/-- D.get(e, f) of a table -/
def eKGet (kvs : List (Str × Int)) (mk mx : ME) : ME := fun env => (mk env).bind fun q => (mx q.1).bind fun t => (q.2.view t.1).bind fun kd => match kd, t.2 with
  | .str z, .fz (.int j) => some (t.1, .fz (.int ((kvs.lookup z).getD j)))
  | _, _ => none
section
variable {X : Cx} {x : Str} {e f : Expr} {p apos cpos : Pos} {mk mx : ME} {kvs : List (Str × Int)}
theorem pe_kget {d : Addr} {ty tx : TE} (hg : Gl X x) (hm : X.mg x = some (.ref d)) (T : TabK X.K X.w d kvs) (he : PE X e ty) (hf : PE X f tx) (m : M2 X (.Name x p) "get" apos e f cpos) (hdb : (x == ("__debug__" : Str)) = false := by decide) :
    PE X (.Call (.Attribute (.Name x p) "get" apos) [e, f] [] cpos) (fun σ H Q => ty σ H fun y H1 => tx σ H1 fun u H2 => ∃ z j, y = .str z ∧ u = .int j ∧ Q (.int ((kvs.lookup z).getD j)) H2) := by
  obtain ⟨es, n, D, ev⟩ := T.ex
  refine ⟨fun pins s σ H Q I h => ?_⟩
  refine wpAny_Call_method m.base m.few m.line PySem.F.plainAttrs_dict PySem.F.slot_dict_get PySem.F.type_dict_get (ld_glob I hg hm ?_ hdb)
  have mo := fun {H' : Hp} {s' : Shared} (I' : Inv X pins σ H' s') => PySem.W.mapOf_K (prog := X.prog) (w := X.w) I'.kIn D.at_ D.lit
  refine ⟨(mo I).typeIs, ?_, ?_⟩
  · intro b q
    cases q
    obtain ⟨ob, _, _, h1, h2, _⟩ := mo I
    exact ⟨ob, h1, h2.2.1⟩
  rw [m.trees]
  refine Calls.callWith_builtin rfl (Calls.evalArgs_plain (Calls.spliced_cons (thn (he.run pins s σ H _ I h) fun iv s2 ⟨y, H2, I2, ry, q2⟩ =>
    Calls.spliced_cons (thn (hf.run pins s2 σ H2 _ I2 q2) fun fv s3 ⟨u, H3, I3, ru, z, j, ey, eu, q3⟩ => Calls.spliced_nil ?_))))
  subst ey eu
  obtain ⟨t, rfl⟩ := (show ∃ t, iv = Value.str z t from ry)
  obtain ⟨t2, rfl⟩ := (show ∃ t, fv = Value.int j t from ru)
  refine call_meetsIn PySem.F.slot_dict_get (mo I3).typeIs PySem.F.entry_dict_get (PySem.F.args_dict_get_3 _ _ _) (meets_dict_get_default (strKind X.prog X.w) d (PySem.strKind_is X.prog X.w z t) D.low (.int j t2)) ⟨_, mo I3, ?_⟩
  have tf := tab_find (l := es.toList) ev z
  rw [Array.toArray_toList] at tf
  rcases tf with ⟨t3, i, e1, e2⟩ | ⟨e1, e2⟩
  · rw [e2]
    rw [e1] at q3
    exact ⟨.int i, H3, I3.tok _, ⟨t3, rfl⟩, q3⟩
  · rw [e2]
    rw [e1] at q3
    exact ⟨.int j, H3, I3.tok _, ⟨t2, rfl⟩, q3⟩
theorem re_kget (hg : Gl X x) (T : ∃ d, X.mg x = some (.ref d) ∧ TabK X.K X.w d kvs) (he : PE X e (tE X.K mk)) (hf : PE X f (tE X.K mx)) (m : M2 X (.Name x p) "get" apos e f cpos) (hdb : (x == ("__debug__" : Str)) = false := by decide) :
    PE X (.Call (.Attribute (.Name x p) "get" apos) [e, f] [] cpos) (tE X.K (eKGet kvs mk mx)) := by
  obtain ⟨d, hm, T⟩ := T
  refine pe_imp (pe_kget hg hm T he hf m hdb) fun σ H Q ⟨F, env, A, env', r, em, k⟩ => ?_
  obtain ⟨⟨env1, r1⟩, e1, em⟩ := bind_some em
  obtain ⟨⟨env2, r2⟩, e2, em⟩ := bind_some em
  obtain ⟨kd, e3, em⟩ := bind_some em
  dsimp only at em
  split at em
  case h_2 => cases em
  rename_i kd' t' z j e4
  cases em
  refine ⟨F, env, A, env1, r1, e1, fun v F1 H1 A1 f1 o1 n1 => ⟨F1, env1, A1, _, _, e2, fun u F2 H2 A2 f2 o2 n2 => ?_⟩⟩
  have ku := RV.ok.rk (RV.ok.keep o1 f2) A2 e3
  cases (show Rp X.K F2 u (.int j) from o2)
  obtain rfl : v = .str z := by
    rcases ku with h | ⟨a, _, h⟩
    · cases h; rfl
    · exact h.elim
  exact ⟨z, j, rfl, rfl, k _ F2 H2 A2 (f1.trans f2) (.int _) trivial⟩
end
/-! ### exception classes of the top -/
structure ExcAt (K : PySem.W.Frag) (mg : Mg) (c : Str) : Prop where
  ex : ∃ C, mg c = some (.ref C) ∧ PySem.W.excIn K C [.type "ValueError", .type "Exception", .type "BaseException", .type "object"] "ValueError.__new__" = true ∧ PySem.W.keepIn K (.ref C) = true ∧
    PySem.W.subIn K (.ref C) (.type "BaseException") = some true ∧ PySem.W.typeIn K (.ref C) = some (.type "type")
theorem exm_two {K : PySem.W.Frag} {C S : Addr} {b : Bool} (h1 : PySem.W.subIn K (.ref S) (.type "BaseException") = some true) (h2 : PySem.W.isClsIn K S = true) (h3 : PySem.W.typeIn K (.ref S) = some (.type "type")) (h4 : PySem.W.subIn K (.ref C) (.ref S) = some b) :
    PySem.W.exmOne K (.ref C) (.ref S) = some b := by
  have e1 : (PySem.W.subIn K (.ref S) (.type "BaseException") == some true) = true := by rw [h1] <;> rfl
  have e2 : ((PySem.W.clsIn K S).isSome && PySem.W.typeIn K (.ref S) == some (.type "type")) = true := by
    have h2' : (PySem.W.clsIn K S).isSome = true := h2
    rw [h2', h3] <;> rfl
  show (if (PySem.W.subIn K (.ref S) (.type "BaseException") == some true) = true then (if ((PySem.W.clsIn K S).isSome && PySem.W.typeIn K (.ref S) == some (.type "type")) = true then PySem.W.subIn K (.ref C) (.ref S) else none) else none) = some b
  rw [if_pos e1, if_pos e2]
  exact h4
/-- the rows of a try -/
theorem exm_nil {K : PySem.W.Frag} {mg : Mg} {S : Value} : ∀ p ∈ ([] : List (Str × Bool)), ∀ cv, mg p.1 = some cv → PySem.W.exmOne K cv S = some p.2 := fun _ h => by cases h
theorem exm_cons {K : PySem.W.Frag} {mg : Mg} {S : Value} {c : Str} {b : Bool} {C : Addr} {hs : List (Str × Bool)} (g : mg c = some (.ref C)) (h : PySem.W.exmOne K (.ref C) S = some b) (r : ∀ p ∈ hs, ∀ cv, mg p.1 = some cv → PySem.W.exmOne K cv S = some p.2) :
    ∀ p ∈ (c, b) :: hs, ∀ cv, mg p.1 = some cv → PySem.W.exmOne K cv S = some p.2 := fun p hp cv hm => by
  rcases List.mem_cons.mp hp with rfl | hp
  · have e := g.symm.trans hm
    cases e
    exact h
  · exact r p hp cv hm
end L3

/-! L4D: what stands behind a run that may raise, step by step. -/
namespace L3
open PySem PySem.Spec PyProof.Rows L2
def WVX (m : MX) (e : MEnv) (P : ValX → Prop) : Prop := Wp (m e) P
def WSX (m : MSX) (e : MEnv) (P : OutX → Prop) : Prop := Wp (m e) P
def WCX (C : CFX) (as : List SV) (P : List SV → ResX → Prop) : Prop := Wp (C as) fun p => P p.1 p.2
def eConst (r : RV) : ME := fun e => some (e, r)
def FirstS (f : ME → MS) : Prop := ∀ m e e' r, m e = some (e', r) → f m e = f (eConst r) e'
def FirstE (f : ME → ME) : Prop := ∀ m e e' r, m e = some (e', r) → f m e = f (eConst r) e'
theorem first_set (i : Nat) : FirstS (sSet i) := fun m e e' r h => by unfold sSet eConst; rw [h]
theorem first_ret : FirstS sRet := fun m e e' r h => by unfold sRet eConst; rw [h]
theorem first_expr : FirstS sExpr := fun m e e' r h => by unfold sExpr eConst; rw [h]
theorem first_call1 (fc : List PyData → Option RV) : FirstE (fun m => eCall fc (aCons m aNil)) := fun m e e' r h => by unfold eCall aCons eConst; dsimp only; rw [h]
theorem first_any (m : ME) (e e' : MEnv) (r : RV) (h : m e = some (e', r)) : iAny m e = iAny (eConst r) e' := by unfold iAny eConst; rw [h]
section
variable {e : MEnv} {r : RV} {P : ValX → Prop} {Ps : OutX → Prop} {Pe : MEnv → RV → Prop} {Pc : List SV → ResX → Prop} {m n : MSX} {mx me : MX} {ms : MS} {mm : ME} {ma : MA} {C : CFX} {as bs : List SV} {rs : List RV} {t : MT} {c : Str} {d : PyData}
theorem we_const : WE (eConst r) e Pe ↔ Pe e r := wp_some
def kXL (P : ValX → Prop) (e : MEnv) (r : RV) : Prop := P (.val e r)
theorem wvx_lift : WVX (xLift mm) e P ↔ WE mm e (kXL P) := by
  simp only [WVX, WE, xLift, wp_bind, wp_some]
  exact Iff.rfl
theorem kXL_eq : kXL P e r ↔ P (.val e r) := Iff.rfl
def kXU3 (rs : List RV) (e : MEnv) (P : ValX → Prop) (bs : List SV) : ResX → Prop
  | .val (.fz d) => P (.val (backSVs rs bs 0 e) (.fz d))
  | .val (.own d) => P (.val (backSVs rs bs 0 e) (.own d))
  | .val (.plc _) => False
  | .ex c => P (.ex c (backSVs rs bs 0 e))
def kXU2 (rs : List RV) (e : MEnv) (P : ValX → Prop) (bs : List SV) (r : ResX) : Prop := bs.all SV.plain = true ∧ kXU3 rs e P bs r
def kXU1 (C : CFX) (rs : List RV) (e : MEnv) (P : ValX → Prop) (as : List SV) : Prop := (apart rs = true ∧ as.all SV.plain = true) ∧ WCX C as (kXU2 rs e P)
def kXU (C : CFX) (P : ValX → Prop) (e : MEnv) (rs : List RV) : Prop := Wp (argSVs e rs) (kXU1 C rs e P)
theorem wvx_user : WVX (xUser C ma) e P ↔ WA ma e (kXU C P) := by
  simp only [WVX, WA, xUser, kXU, kXU1, WCX, wp_bind, wp_guard]
  refine ⟨fun h => h.imp fun p h => h.imp fun as h => ⟨h.1, h.2.imp fun q h => ⟨h.1, ?_⟩⟩, fun h => h.imp fun p h => h.imp fun as h => ⟨h.1, h.2.imp fun q h => ⟨h.1, ?_⟩⟩⟩
  · obtain ⟨bs, r⟩ := q
    have h2 := h.2
    cases r with
    | ex c => exact (wp_some.mp h2 :)
    | val r => cases r with
      | fz d => exact (wp_some.mp h2 :)
      | own d => exact (wp_some.mp h2 :)
      | plc i => exact (wp_none.mp h2 :).elim
  · obtain ⟨bs, r⟩ := q
    have h2 := h.2
    cases r with
    | ex c => exact wp_some.mpr h2
    | val r => cases r with
      | fz d => exact wp_some.mpr h2
      | own d => exact wp_some.mpr h2
      | plc i => exact False.elim h2
theorem kXU_eq : kXU C P e rs ↔ Wp (argSVs e rs) (kXU1 C rs e P) := Iff.rfl
theorem kXU1_eq : kXU1 C rs e P as ↔ (apart rs = true ∧ as.all SV.plain = true) ∧ WCX C as (kXU2 rs e P) := Iff.rfl
theorem kXU2_fz : kXU2 rs e P bs (.val (.fz d)) ↔ bs.all SV.plain = true ∧ P (.val (backSVs rs bs 0 e) (.fz d)) := Iff.rfl
theorem kXU2_own : kXU2 rs e P bs (.val (.own d)) ↔ bs.all SV.plain = true ∧ P (.val (backSVs rs bs 0 e) (.own d)) := Iff.rfl
theorem kXU2_ex : kXU2 rs e P bs (.ex c) ↔ bs.all SV.plain = true ∧ P (.ex c (backSVs rs bs 0 e)) := Iff.rfl
def kXE (f : ME → ME) (P : ValX → Prop) : ValX → Prop
  | .ex c e => P (.ex c e)
  | .val e r => WE (f (eConst r)) e (kXL P)
theorem wvx_ex {f : ME → ME} (hf : FirstE f) : WVX (xEx f mx) e P ↔ WVX mx e (kXE f P) := by
  unfold WVX xEx
  rw [wp_bind]
  cases h : mx e with
  | none => exact wp_none.trans wp_none.symm
  | some o =>
    rw [wp_some, wp_some]
    cases o with
    | ex c e' => exact wp_some
    | val e' r =>
      have := hf (valOf mx) e e' r (valOf_val h)
      dsimp only
      rw [this]
      simp only [kXE, WE, wp_bind, wp_some]
      exact Iff.rfl
theorem wvx_call1 {fc : List PyData → Option RV} : WVX (xEx (fun m => eCall fc (aCons m aNil)) mx) e P ↔ WVX mx e (kXE (fun m => eCall fc (aCons m aNil)) P) := wvx_ex (first_call1 fc)
theorem kXE_ex {f : ME → ME} : kXE f P (.ex c e) ↔ P (.ex c e) := Iff.rfl
theorem kXE_val {f : ME → ME} : kXE f P (.val e r) ↔ WE (f (eConst r)) e (kXL P) := Iff.rfl
/-! statements -/
def kOf (P : OutX → Prop) (o : Out) : Prop := P (.of o)
theorem kOf_eq {o : Out} : kOf Ps o ↔ Ps (.of o) := Iff.rfl
theorem wsx_of : WSX (xOf ms) e Ps ↔ WS ms e (kOf Ps) := by
  simp only [WSX, WS, xOf, wp_bind, wp_some]
  exact Iff.rfl
def kXSt (f : ME → MS) (P : OutX → Prop) : ValX → Prop
  | .ex c e => P (.ex c e)
  | .val e r => WS (f (eConst r)) e (kOf P)
theorem wsx_st {f : ME → MS} (hf : FirstS f) : WSX (xSt f mx) e Ps ↔ WVX mx e (kXSt f Ps) := by
  unfold WSX WVX xSt
  rw [wp_bind]
  cases h : mx e with
  | none => exact wp_none.trans wp_none.symm
  | some o =>
    rw [wp_some, wp_some]
    cases o with
    | ex c e' => exact wp_some
    | val e' r =>
      have := hf (valOf mx) e e' r (valOf_val h)
      dsimp only
      rw [this]
      simp only [kXSt, WS, wp_bind, wp_some]
      exact Iff.rfl
theorem wsx_set {i : Nat} : WSX (xSt (sSet i) mx) e Ps ↔ WVX mx e (kXSt (sSet i) Ps) := wsx_st (first_set i)
theorem wsx_ret : WSX (xSt sRet mx) e Ps ↔ WVX mx e (kXSt sRet Ps) := wsx_st first_ret
theorem wsx_expr : WSX (xSt sExpr mx) e Ps ↔ WVX mx e (kXSt sExpr Ps) := wsx_st first_expr
theorem kXSt_ex {f : ME → MS} : kXSt f Ps (.ex c e) ↔ Ps (.ex c e) := Iff.rfl
theorem kXSt_val {f : ME → MS} : kXSt f Ps (.val e r) ↔ WS (f (eConst r)) e (kOf Ps) := Iff.rfl
def kXSeq (n : MSX) (P : OutX → Prop) : OutX → Prop
  | .of (.nx e) => WSX n e P
  | o => P o
theorem wsx_seq : WSX (xSeq m n) e Ps ↔ WSX m e (kXSeq n Ps) := by
  unfold WSX xSeq
  rw [wp_bind]
  cases h : m e with
  | none => exact wp_none.trans wp_none.symm
  | some o =>
    rw [wp_some, wp_some]
    cases o with
    | ex c e' => exact wp_some
    | of o => cases o with
      | nx e' => exact Iff.rfl
      | bk e' => exact wp_some
      | ct e' => exact wp_some
      | rt r e' => exact wp_some
theorem kXSeq_nx : kXSeq n Ps (.of (.nx e)) ↔ WSX n e Ps := Iff.rfl
theorem kXSeq_rt : kXSeq n Ps (.of (.rt r e)) ↔ Ps (.of (.rt r e)) := Iff.rfl
theorem kXSeq_ex : kXSeq n Ps (.ex c e) ↔ Ps (.ex c e) := Iff.rfl
def kXIf (a b : MSX) (P : OutX → Prop) (e : MEnv) (k : Bool) : Prop := if k = true then WSX a e P else WSX b e P
theorem wsx_if : WSX (xIf t m n) e Ps ↔ WT t e (kXIf m n Ps) := by
  unfold WSX WT xIf
  rw [wp_bind]
  refine ⟨fun h => h.imp fun p h => ?_, fun h => h.imp fun p h => ?_⟩
  · unfold kXIf
    split
    · rename_i hb; rw [if_pos hb] at h; exact h
    · rename_i hb; rw [if_neg hb] at h; exact h
  · unfold kXIf at h
    split at h
    · rename_i hb; rw [if_pos hb]; exact h
    · rename_i hb; rw [if_neg hb]; exact h
theorem kXIf_t : kXIf m n Ps e true ↔ WSX m e Ps := by simp [kXIf]
theorem kXIf_f : kXIf m n Ps e false ↔ WSX n e Ps := by simp [kXIf]
theorem kXIf_i {b : Bool} (h : b = true → WSX m e Ps) (h' : b = false → WSX n e Ps) : kXIf m n Ps e b := by
  cases b with
  | true => exact kXIf_t.mpr (h rfl)
  | false => exact kXIf_f.mpr (h' rfl)
theorem wsx_raise : WSX (xRaise c) e Ps ↔ Ps (.ex c e) := wp_some
def kXTry (hs : List (Str × Bool)) (s : MS) (P : OutX → Prop) : OutX → Prop
  | .of o => P (.of o)
  | .ex c e => Wp (hs.lookup c) fun b => if b = true then WS s e (kOf P) else P (.ex c e)
theorem wsx_try {hs : List (Str × Bool)} : WSX (xTry hs m ms) e Ps ↔ WSX m e (kXTry hs ms Ps) := by
  unfold WSX xTry
  rw [wp_bind]
  cases h : m e with
  | none => exact wp_none.trans wp_none.symm
  | some o =>
    rw [wp_some, wp_some]
    cases o with
    | of o => exact wp_some
    | ex c e' =>
      simp only [kXTry]
      rw [wp_bind]
      refine ⟨fun h => h.imp fun b h => ?_, fun h => h.imp fun b h => ?_⟩
      · by_cases hb : b = true
        · rw [if_pos hb] at h ⊢
          rw [wp_bind] at h
          exact h.imp fun o h => (wp_some.mp h :)
        · rw [if_neg hb] at h ⊢
          exact (wp_some.mp h :)
      · by_cases hb : b = true
        · rw [if_pos hb] at h ⊢
          rw [wp_bind]
          exact Wp.imp h fun o h => wp_some.mpr h
        · rw [if_neg hb] at h ⊢
          exact wp_some.mpr h
theorem kXTry_of {hs : List (Str × Bool)} {o : Out} : kXTry hs ms Ps (.of o) ↔ Ps (.of o) := Iff.rfl
theorem kXTry_ex1 : kXTry [(c, true)] ms Ps (.ex c e) ↔ WS ms e (kOf Ps) := by
  simp only [kXTry, List.lookup_cons, beq_self_eq_true, wp_some, if_true]
def kDrop (P : Out → Prop) : OutX → Prop
  | .of o => P o
  | .ex _ _ => False
theorem ws_drop {Pk : Out → Prop} : WS (dropX m) e Pk ↔ WSX m e (kDrop Pk) := by
  unfold WS WSX dropX
  rw [wp_bind]
  cases h : m e with
  | none => exact wp_none.trans wp_none.symm
  | some o =>
    rw [wp_some, wp_some]
    cases o with
    | of o => exact wp_some
    | ex c e' => exact wp_none
theorem kDrop_of {Pk : Out → Prop} {o : Out} : kDrop Pk (.of o) ↔ Pk o := Iff.rfl
/-! defs -/
def kRunXE (P : List SV → ResX → Prop) (c : Str) (bs : List SV) : Prop := P bs (.ex c)
def kRunXV (P : List SV → ResX → Prop) (r : RV) (bs : List SV) : Prop := P bs (.val r)
def kRunX (as : List SV) (P : List SV → ResX → Prop) : OutX → Prop
  | .of (.rt (.fz d) e) => Wp (exitAll as e) (kRunXV P (.fz d))
  | .of (.rt (.own d) e) => Wp (exitAll as e) (kRunXV P (.own d))
  | .of (.nx e) => Wp (exitAll as e) (kRunXV P (.fz .none))
  | .ex c e => Wp (exitAll as e) (kRunXE P c)
  | _ => False
theorem wcx_run {n l : Nat} (h : (as.length = n ∧ as.all SV.plain = true ∧ n ≤ l) ∧ WSX m (as.map SV.enter ++ List.replicate (l - n) SV.unb) (kRunX as Pc)) : WCX (runFX n l m) as Pc := by
  unfold WCX runFX
  rw [wp_guard, wp_bind]
  refine ⟨h.1, Wp.imp h.2 fun o h => ?_⟩
  cases o with
  | ex c e' => exact wp_bind.mpr (Wp.imp h fun bs h => wp_some.mpr h)
  | of o => cases o with
    | nx e' => exact wp_bind.mpr (Wp.imp h fun bs h => wp_some.mpr h)
    | bk e' => exact h.elim
    | ct e' => exact h.elim
    | rt r e' => cases r with
      | fz d => exact wp_bind.mpr (Wp.imp h fun bs h => wp_some.mpr h)
      | own d => exact wp_bind.mpr (Wp.imp h fun bs h => wp_some.mpr h)
      | plc i => exact h.elim
theorem kRunX_fz : kRunX as Pc (.of (.rt (.fz d) e)) ↔ Wp (exitAll as e) (kRunXV Pc (.fz d)) := Iff.rfl
theorem kRunX_own : kRunX as Pc (.of (.rt (.own d) e)) ↔ Wp (exitAll as e) (kRunXV Pc (.own d)) := Iff.rfl
theorem kRunX_ex : kRunX as Pc (.ex c e) ↔ Wp (exitAll as e) (kRunXE Pc c) := Iff.rfl
theorem kRunXE_eq : kRunXE Pc c bs ↔ Pc bs (.ex c) := Iff.rfl
theorem kRunXV_eq : kRunXV Pc r bs ↔ Pc bs (.val r) := Iff.rfl
/-! comprehensions -/
def mapO (f : PyData → Option PyData) : List PyData → Option (List PyData)
  | [] => some []
  | d :: ds => (f d).bind fun b => (mapO f ds).bind fun bs => some (b :: bs)
theorem wlcx_map {g : MG} {vs : List Nat} {f : PyData → Option PyData} : ∀ {ds acc : List PyData}, acc.length + ds.length ≤ lineN →
    (∀ d ∈ ds, WG g d e fun e1 => WVX me e1 fun o => (∃ b e2, f d = some b ∧ o = .val e2 (.fz b) ∧ wipeE e2 vs = e) ∨ ∃ e2, f d = none ∧ o = .ex c e2 ∧ wipeE e2 vs = e) →
    Wp (lcLoopX g me vs ds e acc) fun q => (∃ bs, mapO f ds = some bs ∧ q = .val e (acc ++ bs)) ∨ (mapO f ds = none ∧ q = .ex c e)
  | [], acc, _, _ => wp_some.mpr (.inl ⟨[], rfl, by rw [List.append_nil]⟩)
  | d :: ds, acc, hl, h => by
    rw [List.length_cons] at hl
    unfold lcLoopX
    rw [wp_bind]
    refine Wp.imp (h d List.mem_cons_self) fun e1 h1 => ?_
    rw [wp_bind]
    refine Wp.imp h1 fun o ho => ?_
    rcases ho with ⟨b, e2, fb, rfl, hw⟩ | ⟨e2, fb, rfl, hw⟩
    · dsimp only
      show Wp (((RV.fz b).fix e2).bind _) _
      rw [wp_bind]
      refine wp_some.mpr ?_
      rw [wp_guard]
      refine ⟨by omega, ?_⟩
      dsimp only
      rw [hw]
      refine (wlcx_map (acc := acc ++ [b]) (by rw [List.length_append, List.length_singleton]; omega) fun d hd => h d (List.mem_cons_of_mem _ hd)).imp fun q hq => ?_
      rcases hq with ⟨bs, h2, rfl⟩ | ⟨h2, rfl⟩
      · exact .inl ⟨b :: bs, by unfold mapO; rw [fb, h2]; rfl, by rw [List.append_assoc]; rfl⟩
      · exact .inr ⟨by unfold mapO; rw [fb, h2]; rfl, rfl⟩
    · refine wp_some.mpr (.inr ⟨by unfold mapO; rw [fb]; rfl, by rw [hw]⟩)
def kXLcE (e1 : MEnv) (vs : List Nat) (P : ValX → Prop) : LcR → Prop
  | .val e acc => P (.val (backE e1 e vs) (.own (.list acc)))
  | .ex c e => P (.ex c (backE e1 e vs))
def kXLc1 (vs : List Nat) (g : MG) (me : MX) (P : ValX → Prop) (e : MEnv) (ds : List PyData) : Prop := unlocked e vs = true ∧ Wp (lcLoopX g me vs ds (wipeE e vs) []) (kXLcE e vs P)
def kXLc (vs : List Nat) (g : MG) (me : MX) (P : ValX → Prop) : ValX → Prop
  | .ex c e => P (.ex c e)
  | .val e r => WI (iAny (eConst r)) e (kXLc1 vs g me P)
theorem wvx_lc {vs : List Nat} {g : MG} : WVX (xLc vs g mx me) e P ↔ WVX mx e (kXLc vs g me P) := by
  unfold WVX xLc
  rw [wp_bind]
  cases h : mx e with
  | none => exact wp_none.trans wp_none.symm
  | some o =>
    rw [wp_some, wp_some]
    cases o with
    | ex c e' => exact wp_some
    | val e' r =>
      have := first_any (valOf mx) e e' r (valOf_val h)
      dsimp only
      rw [this]
      simp only [kXLc, WI, wp_bind]
      refine ⟨fun h => h.imp fun p h => ?_, fun h => h.imp fun p h => ?_⟩
      · rw [wp_guard, wp_bind] at h
        refine ⟨h.1, h.2.imp fun q h => ?_⟩
        cases q with
        | val e acc => exact (wp_some.mp h :)
        | ex c e => exact (wp_some.mp h :)
      · rw [wp_guard, wp_bind]
        refine ⟨h.1, Wp.imp h.2 fun q h => ?_⟩
        cases q with
        | val e acc => exact wp_some.mpr h
        | ex c e => exact wp_some.mpr h
theorem kXLc_ex {vs : List Nat} {g : MG} : kXLc vs g me P (.ex c e) ↔ P (.ex c e) := Iff.rfl
theorem kXLc_val {vs : List Nat} {g : MG} : kXLc vs g me P (.val e r) ↔ WI (iAny (eConst r)) e (kXLc1 vs g me P) := Iff.rfl
theorem kXLc1_eq {vs : List Nat} {g : MG} {ds : List PyData} : kXLc1 vs g me P e ds ↔ unlocked e vs = true ∧ Wp (lcLoopX g me vs ds (wipeE e vs) []) (kXLcE e vs P) := Iff.rfl
theorem kXLcE_val {vs : List Nat} {e1 : MEnv} {acc : List PyData} : kXLcE e1 vs P (.val e acc) ↔ P (.val (backE e1 e vs) (.own (.list acc))) := Iff.rfl
theorem kXLcE_ex {vs : List Nat} {e1 : MEnv} : kXLcE e1 vs P (.ex c e) ↔ P (.ex c (backE e1 e vs)) := Iff.rfl
/-! loops -/
def kXFor (g : MG) (m : MSX) (P : OutX → Prop) (e : MEnv) (ds : List PyData) : Prop := Wp (forLoopX g m ds e) P
theorem wsx_for {g : MG} {mi : MI} : WSX (xFor g mi m) e Ps ↔ WI mi e (kXFor g m Ps) := by
  simp only [WSX, WI, xFor, kXFor, wp_bind]
theorem kXFor_eq {g : MG} {ds : List PyData} : kXFor g m Ps e ds ↔ Wp (forLoopX g m ds e) Ps := Iff.rfl
/-- a loop that looks at each, and raises at the first that is bad -/
theorem wforx_look {g : MG} {bad : PyData → Bool} (J : MEnv → Prop) : ∀ {ds : List PyData} {e : MEnv}, J e → (∀ d ∈ ds, ∀ e, J e → WG g d e fun e1 => WSX m e1 fun o => (bad d = false ∧ ∃ e2, o = .of (.nx e2) ∧ J e2) ∨ (bad d = true ∧ ∃ e2, o = .ex c e2 ∧ J e2)) →
    Wp (forLoopX g m ds e) fun o => (ds.any bad = false ∧ ∃ e2, o = .of (.nx e2) ∧ J e2) ∨ (ds.any bad = true ∧ ∃ e2, o = .ex c e2 ∧ J e2)
  | [], e, he, _ => wp_some.mpr (.inl ⟨rfl, e, rfl, he⟩)
  | d :: ds, e, he, h => by
    unfold forLoopX
    rw [wp_bind]
    refine Wp.imp (h d List.mem_cons_self e he) fun e1 h1 => ?_
    rw [wp_bind]
    refine Wp.imp h1 fun o ho => ?_
    rcases ho with ⟨hb, e2, rfl, j⟩ | ⟨hb, e2, rfl, j⟩
    · refine (wforx_look J j fun d hd => h d (List.mem_cons_of_mem _ hd)).imp fun q hq => ?_
      rw [List.any_cons, hb, Bool.false_or]
      exact hq
    · exact wp_some.mpr (.inr ⟨by rw [List.any_cons, hb, Bool.true_or], e2, rfl, j⟩)
/-! zip -/
def kZipb (P : MEnv → List PyData → Prop) (e : MEnv) : List PyData → Prop
  | [.tuple as, .tuple bs] => P e (zipD as bs)
  | [.list as, .list bs] => P e (zipD as bs)
  | _ => False
def kZip (P : MEnv → List PyData → Prop) (e : MEnv) (rs : List RV) : Prop := WFs rs e (kZipb P)
theorem wi_zip {Pi : MEnv → List PyData → Prop} : WI (iZip ma) e Pi ↔ WA ma e (kZip Pi) := by
  simp only [WI, WA, WFs, iZip, kZip, wp_bind]
  refine ⟨fun h => h.imp fun p h => h.imp fun q h => ?_, fun h => h.imp fun p h => h.imp fun q h => ?_⟩
  · split at h
    · rename_i as bs e1
      have h' : Pi q.1 (zipD as bs) := (wp_some.mp h :)
      first | (rw [e1]; exact h') | exact h'
    · rename_i as bs e1
      have h' : Pi q.1 (zipD as bs) := (wp_some.mp h :)
      first | (rw [e1]; exact h') | exact h'
    · exact (wp_none.mp h).elim
  · unfold kZipb at h
    split at h
    · rename_i as bs e1
      first | (rw [e1]; exact wp_some.mpr h) | exact wp_some.mpr h
    · rename_i as bs e1
      first | (rw [e1]; exact wp_some.mpr h) | exact wp_some.mpr h
    · exact h.elim
theorem kZip_eq {Pi : MEnv → List PyData → Prop} : kZip Pi e rs ↔ WFs rs e (kZipb Pi) := Iff.rfl
theorem kZipb_t {Pi : MEnv → List PyData → Prop} {as bs : List PyData} : kZipb Pi e [.tuple as, .tuple bs] ↔ Pi e (zipD as bs) := Iff.rfl
theorem kZipb_l {Pi : MEnv → List PyData → Prop} {as bs : List PyData} : kZipb Pi e [.list as, .list bs] ↔ Pi e (zipD as bs) := Iff.rfl
/-! tables -/
def kKG3 (kvs : List (Str × Int)) (r2 : RV) (P : MEnv → RV → Prop) (e : MEnv) : PyData → Prop
  | .str z => match r2 with
    | .fz (.int j) => P e (.fz (.int ((kvs.lookup z).getD j)))
    | _ => False
  | _ => False
def kKG2 (kvs : List (Str × Int)) (r1 : RV) (P : MEnv → RV → Prop) (e : MEnv) (r2 : RV) : Prop := WV r1 e (kKG3 kvs r2 P e)
def kKG1 (kvs : List (Str × Int)) (mx : ME) (P : MEnv → RV → Prop) (e : MEnv) (r1 : RV) : Prop := WE mx e (kKG2 kvs r1 P)
theorem we_kget {kvs : List (Str × Int)} {mk mx : ME} : WE (eKGet kvs mk mx) e Pe ↔ WE mk e (kKG1 kvs mx Pe) := by
  simp only [WE, WV, eKGet, kKG1, kKG2, wp_bind]
  refine ⟨fun h => h.imp fun p h => h.imp fun q h => h.imp fun d h => ?_, fun h => h.imp fun p h => h.imp fun q h => h.imp fun d h => ?_⟩
  · obtain ⟨qe, qr⟩ := q
    dsimp only at h
    split at h
    · exact (wp_some.mp h :)
    · exact (wp_none.mp h).elim
  · obtain ⟨qe, qr⟩ := q
    unfold kKG3 at h
    split at h
    · split at h
      · rename_i e1
        cases (show qr = _ from e1)
        exact wp_some.mpr h
      · exact h.elim
    · exact h.elim
theorem kKG1_eq {kvs : List (Str × Int)} {mx : ME} : kKG1 kvs mx Pe e r ↔ WE mx e (kKG2 kvs r Pe) := Iff.rfl
theorem kKG2_eq {kvs : List (Str × Int)} {r1 : RV} : kKG2 kvs r1 Pe e r ↔ WV r1 e (kKG3 kvs r Pe e) := Iff.rfl
theorem kKG3_s {kvs : List (Str × Int)} {z : Str} {j : Int} : kKG3 kvs (.fz (.int j)) Pe e (.str z) ↔ Pe e (.fz (.int ((kvs.lookup z).getD j))) := Iff.rfl
end
end L3

/-! L4E: tuple * number, [..] * number. -/
namespace L3
open PySem PySem.Spec PyProof.Rows L2
def mulRD : PyData → PyData → Option RV
  | .tuple ds, .int n => if ds ≠ [] ∧ 2 ≤ n ∧ n ≤ 1000 ∧ ds.length ≤ 1000 then some (.fz (.tuple (List.replicate n.toNat ds).flatten)) else none
  | d, e => mulSD d e
theorem mulRD_i {i j : Int} : mulRD (.int i) (.int j) = mulSD (.int i) (.int j) := rfl
theorem mulRD_s {x : Str} {n : Int} : mulRD (.str x) (.int n) = mulSD (.str x) (.int n) := rfl
theorem mulRD_t {ds : List PyData} {n : Int} : mulRD (.tuple ds) (.int n) = if ds ≠ [] ∧ 2 ≤ n ∧ n ≤ 1000 ∧ ds.length ≤ 1000 then some (.fz (.tuple (List.replicate n.toNat ds).flatten)) else none := rfl
theorem rp_rep {K : PySem.W.Frag} {F : Hp} {xs : List V} {ds : List PyData} (h : RpAll K F xs ds) : ∀ n : Nat, RpAll K F (List.replicate n xs).flatten (List.replicate n ds).flatten
  | 0 => .nil
  | n + 1 => by
    rw [List.replicate_succ, List.replicate_succ, List.flatten_cons, List.flatten_cons]
    exact h.append (rp_rep h n)
theorem rep_len {α : Type} (ds : List α) (n : Nat) : (List.replicate n ds).flatten.length = n * ds.length := by
  induction n with
  | zero => simp
  | succ n ih => rw [List.replicate_succ, List.flatten_cons, List.length_append, ih, Nat.succ_mul]; omega
theorem o_mulR {X : Cx} : OpR X (binaryOp .Mult) (rOp2 X.K mulRD) := by
  intro pins s σ H x y v u Q I rx ry ⟨F, d, e, r, sm, kx, ky, hf, g⟩
  unfold mulRD at hf
  split at hf
  · rename_i ds n
    split at hf
    · rename_i hc
      cases hf
      rw [ky.int] at ry
      obtain ⟨a, ys, rfl, h1, r1⟩ := kx.tup sm
      have hl := r1.length
      refine op_repT pins s σ H _ _ v u Q I rx ry ⟨a, n, ys, rfl, rfl, h1, fun z => ?_, hc.2.1, hc.2.2.1, by rw [hl]; exact hc.2.2.2, fun p hp => ?_⟩
      · subst z
        cases ds with
        | nil => exact hc.1 rfl
        | cons a b => simp at hl
      · exact g.newTup sm (rp_rep r1 n.toNat) hp
    · cases hf
  · exact o_mulS pins s σ H x y v u Q I rx ry ⟨F, d, e, r, sm, kx, ky, hf, g⟩
/-- [..] * n -/
def eRepL (ma mb : ME) : ME := fun env => (ma env).bind fun p => (mb p.1).bind fun q => match p.2, q.2 with
  | .own (.list ds), .fz (.int n) => if 0 ≤ n ∧ n ≤ 1000 ∧ ds.length ≤ 1000 then some (q.1, .own (.list (List.replicate n.toNat ds).flatten)) else none
  | _, _ => none
section
variable {X : Cx} {a b : Expr} {pos : Pos} {ma mb : ME}
theorem re_repL (ha : PE X a (tE X.K ma)) (hb : PE X b (tE X.K mb)) : PE X (.BinOp a .Mult b pos) (tE X.K (eRepL ma mb)) := pe_imp (pe_op op_rep ha hb) fun σ H Q ⟨F, env, A, env', r, em, k⟩ => by
  obtain ⟨⟨env1, r1⟩, e1, em⟩ := bind_some em
  obtain ⟨⟨env2, r2⟩, e2, em⟩ := bind_some em
  dsimp only at em
  split at em
  case h_2 => cases em
  rename_i p2 ds n q2
  split at em
  case isFalse => cases em
  rename_i hc
  cases em
  refine ⟨F, env, A, env1, _, e1, fun v F1 H1 A1 f1 o1 n1 => ⟨F1, env1, A1, _, _, e2, fun u F2 H2 A2 f2 o2 n2 => ?_⟩⟩
  have o1' := RV.ok.keep o1 f2
  obtain ⟨l, rfl, fl, ⟨xs, hx, rx⟩, nl⟩ := o1'
  cases (show Rp X.K F2 u (.int n) from o2)
  have hl := rx.length
  refine ⟨l, n, xs, rfl, rfl, hx, by omega, by omega, ?_, fun p hp => ?_⟩
  · rw [hl, sizeLine_eq]
    have : ds.length * n.toNat ≤ 1000 * 1000 := Nat.mul_le_mul hc.2.2 (by omega)
    omega
  · have sH : Same H2 (upd H2 p (.lst (List.replicate n.toNat xs).flatten)) := fun c o q => by rw [upd_ne (ne_of_none q hp)]; exact q
    obtain ⟨A3, f3⟩ := grow A2 (Same.refl F2) sH (A2.same.trans sH) fun _ _ h => .inl h
    refine k (.ref p) F2 _ A3 ((f1.trans f2).trans f3) ⟨p, rfl, A2.same.free hp, ⟨_, upd_same, rp_rep rx n.toNat⟩, fun z => ?_⟩ ⟨p, rfl, ?_⟩
    · obtain ⟨_, o, ho⟩ := A2.ownsF z
      rw [hp] at ho; cases ho
    · cases q : H p with
      | none => rfl
      | some w =>
        obtain ⟨o, h1⟩ := (f1.trans f2).there p w q
        rw [hp] at h1; cases h1
variable {e : MEnv} {P : MEnv → RV → Prop}
def kRep2 (r1 : RV) (P : MEnv → RV → Prop) (e : MEnv) (r2 : RV) : Prop := match r1, r2 with
  | .own (.list ds), .fz (.int n) => (0 ≤ n ∧ n ≤ 1000 ∧ ds.length ≤ 1000) ∧ P e (.own (.list (List.replicate n.toNat ds).flatten))
  | _, _ => False
def kRep1 (mb : ME) (P : MEnv → RV → Prop) (e : MEnv) (r1 : RV) : Prop := L3.WE mb e (kRep2 r1 P)
theorem we_repL : L3.WE (eRepL ma mb) e P ↔ L3.WE ma e (kRep1 mb P) := by
  simp only [L3.WE, eRepL, kRep1, wp_bind]
  refine ⟨fun h => h.imp fun p h => h.imp fun q h => ?_, fun h => h.imp fun p h => h.imp fun q h => ?_⟩
  · obtain ⟨pe, pr⟩ := p
    obtain ⟨qe, qr⟩ := q
    dsimp only at h
    split at h
    · obtain ⟨h1, h2⟩ := wp_guard.mp h
      exact ⟨h1, (wp_some.mp h2 :)⟩
    · exact (wp_none.mp h).elim
  · obtain ⟨pe, pr⟩ := p
    obtain ⟨qe, qr⟩ := q
    unfold kRep2 at h
    dsimp only at h
    split at h
    · exact wp_guard.mpr ⟨h.1, wp_some.mpr h.2⟩
    · exact h.elim
theorem kRep1_eq {r1 : RV} : kRep1 mb P e r1 ↔ L3.WE mb e (kRep2 r1 P) := Iff.rfl
theorem kRep2_eq {ds : List PyData} {n : Int} : kRep2 (.own (.list ds)) P e (.fz (.int n)) ↔ (0 ≤ n ∧ n ≤ 1000 ∧ ds.length ≤ 1000) ∧ P e (.own (.list (List.replicate n.toNat ds).flatten)) := Iff.rfl
end
/-! a comprehension over two -/
section
variable {e e1 e2 : MEnv} {g : MG} {t : MT} {m : ME} {vs : List Nat} {d0 d1 x z : PyData} {Q : MEnv × List PyData → Prop}
def kTwo2 (Q : MEnv × List PyData → Prop) (x : PyData) (e : MEnv) (a : List PyData) : Prop := ∃ z, a = [x, z] ∧ Q (e, a)
def kTwo1 (g : MG) (t : MT) (m : ME) (vs : List Nat) (d1 : PyData) (Q : MEnv × List PyData → Prop) (e : MEnv) (a : List PyData) : Prop := ∃ x, a = [x] ∧ WG g d1 e (kLcT vs t m (kTwo2 Q x) a)
theorem kTwo1_eq : kTwo1 g t m vs d1 Q e [x] ↔ WG g d1 e (kLcT vs t m (kTwo2 Q x) [x]) := ⟨fun ⟨y, h, q⟩ => by cases h; exact q, fun q => ⟨x, rfl, q⟩⟩
theorem kTwo2_eq : kTwo2 Q x e [x, z] ↔ Q (e, [x, z]) := ⟨fun ⟨y, h, q⟩ => q, fun q => ⟨z, rfl, q⟩⟩
theorem wlc_two (h : WG g d0 e (kLcT vs t m (kTwo1 g t m vs d1 Q) [])) : Wp (lcLoop g t m vs [d0, d1] e []) Q := by
  refine wlc (fun i e2 acc => (i = 0 ∧ e2 = e ∧ acc = []) ∨ (i = 1 ∧ kTwo1 g t m vs d1 Q e2 acc) ∨ (i = 2 ∧ Q (e2, acc))) (by show 2 ≤ lineN; decide) (.inl ⟨rfl, rfl, rfl⟩) (fun i d hd e2 acc hj hl => ?_) fun e2 acc hj _ => ?_
  · rcases hj with ⟨rfl, rfl, rfl⟩ | ⟨rfl, x, rfl, h1⟩ | ⟨rfl, _⟩
    · cases hd
      refine Wp.imp h fun e1 h1 => Wp.imp h1 fun p h1 => ?_
      unfold kLcB at h1 ⊢
      split
      · rename_i hb
        rw [if_pos hb] at h1
        exact Wp.imp h1 fun q h1 => Wp.imp h1 fun s h1 => .inr (.inl ⟨rfl, h1⟩)
      · rename_i hb
        rw [if_neg hb] at h1
        exact .inr (.inl ⟨rfl, h1⟩)
    · cases hd
      refine Wp.imp h1 fun e1 h1 => Wp.imp h1 fun p h1 => ?_
      unfold kLcB at h1 ⊢
      split
      · rename_i hb
        rw [if_pos hb] at h1
        refine Wp.imp h1 fun q h1 => Wp.imp h1 fun s h1 => ?_
        obtain ⟨z, _, q⟩ := h1
        exact .inr (.inr ⟨rfl, q⟩)
      · rename_i hb
        rw [if_neg hb] at h1
        obtain ⟨z, h2, _⟩ := h1
        cases h2
    · simp at hd
  · rcases hj with ⟨h, _⟩ | ⟨h, _⟩ | ⟨_, h⟩
    · cases h
    · cases h
    · exact h
end
end L3

/-! L4F: sorted(set(xs)) of ints. -/
namespace L3
open PySem PySem.Spec PyProof.Rows L2
/-! ### ints in order, each once -/
def insS (i : Int) : List Int → List Int
  | [] => [i]
  | j :: r => if i < j then i :: j :: r else if i = j then j :: r else j :: insS i r
def sortSetI (ns : List Int) : List Int := ns.foldr insS []
theorem mem_insS {i k : Int} : ∀ {l : List Int}, k ∈ insS i l ↔ k = i ∨ k ∈ l
  | [] => by unfold insS; simp
  | j :: r => by
    unfold insS
    by_cases h1 : i < j
    · rw [if_pos h1]; simp
    · rw [if_neg h1]
      by_cases h2 : i = j
      · rw [if_pos h2]; subst h2; simp
      · rw [if_neg h2, List.mem_cons, List.mem_cons, mem_insS]
        constructor
        · rintro (h | h | h)
          · exact .inr (.inl h)
          · exact .inl h
          · exact .inr (.inr h)
        · rintro (h | h | h)
          · exact .inr (.inl h)
          · exact .inl h
          · exact .inr (.inr h)
theorem insS_lt {i : Int} : ∀ {l : List Int}, l.Pairwise (· < ·) → (insS i l).Pairwise (· < ·)
  | [], _ => by unfold insS; simp
  | j :: r, h => by
    have h0 := List.pairwise_cons.mp h
    unfold insS
    by_cases h1 : i < j
    · rw [if_pos h1]
      refine List.pairwise_cons.mpr ⟨fun x hx => ?_, h⟩
      rcases List.mem_cons.mp hx with rfl | hx
      · exact h1
      · have := h0.1 x hx
        omega
    · rw [if_neg h1]
      by_cases h2 : i = j
      · rw [if_pos h2]; exact h
      · rw [if_neg h2]
        refine List.pairwise_cons.mpr ⟨fun x hx => ?_, insS_lt h0.2⟩
        rcases mem_insS.mp hx with rfl | hx
        · omega
        · exact h0.1 x hx
theorem mem_sortSet {k : Int} : ∀ {ns : List Int}, k ∈ sortSetI ns ↔ k ∈ ns
  | [] => Iff.rfl
  | n :: ns => by
    show k ∈ insS n (sortSetI ns) ↔ _
    rw [mem_insS, mem_sortSet, List.mem_cons]
theorem sortSet_lt : ∀ ns : List Int, (sortSetI ns).Pairwise (· < ·)
  | [] => List.Pairwise.nil
  | n :: ns => insS_lt (sortSet_lt ns)
theorem lt_unique : ∀ {a b : List Int}, a.Pairwise (· < ·) → b.Pairwise (· < ·) → (∀ k, k ∈ a ↔ k ∈ b) → a = b
  | [], [], _, _, _ => rfl
  | [], y :: b, _, _, h => by have := (h y).mpr List.mem_cons_self; cases this
  | x :: a, [], _, _, h => by have := (h x).mp List.mem_cons_self; cases this
  | x :: a, y :: b, ha, hb, h => by
    have a0 := List.pairwise_cons.mp ha
    have b0 := List.pairwise_cons.mp hb
    have e : x = y := by
      rcases List.mem_cons.mp ((h x).mp List.mem_cons_self) with e | e
      · exact e
      · have h1 := b0.1 x e
        rcases List.mem_cons.mp ((h y).mpr List.mem_cons_self) with e2 | e2
        · exact e2.symm
        · have := a0.1 y e2
          omega
    subst e
    refine congrArg (x :: ·) (lt_unique a0.2 b0.2 fun k => ?_)
    constructor
    · intro hk
      have := a0.1 k hk
      rcases List.mem_cons.mp ((h k).mp (List.mem_cons_of_mem _ hk)) with e | e
      · omega
      · exact e
    · intro hk
      have := b0.1 k hk
      rcases List.mem_cons.mp ((h k).mpr (List.mem_cons_of_mem _ hk)) with e | e
      · omega
      · exact e
theorem rp_intsL {K : PySem.W.Frag} {F : Hp} : ∀ ns : List Int, RpAll K F (ns.map V.int) (ns.map PyData.int)
  | [] => .nil
  | n :: ns => .cons (.int n) (rp_intsL ns)
/-! ### a set of a list -/
/-- a new set, empty -/
def sOb (w : World) : Obj := { cls := .type "set", dict := none, data := .set #[] 0 (.fresh 0 0 (!w.params.followText "set-order")) }
/-- the set stands just behind what was -/
structure SetDone (w : World) (s : Shared) (ns : List Int) (h' : Heap) (c : Nat) : Prop where
  set : SetR w h' s.heap.objs.size (fun j => decide (j ∈ ns)) c
  few : c ≤ ns.length
  keep : ∀ b o, s.heap.get? b = some o → h'.get? b = some o
section
variable {P : Program} {w : World} {A : Around} {E : Value → Shared → Prop} {s : Shared}
set_option maxHeartbeats 3200000 in
theorem set_list {l : Addr} {its : Array Value} (ns : List Int) {Q : Value → Shared → Prop} (hh : A.handled = none) (hl : s.heap.IsList l its) (hi : IntsAre its.toList ns) (hb : ns.length + 1 < scanBound)
    (k : ∀ (h' : Heap) (tk c : Nat), SetDone w s ns h' c → Q (.ref s.heap.objs.size) { s with heap := h', toks := tk }) :
    wpAny (model P w) A (call (.type "set") [.ref l]) Q E s := by
  have hn : its.size = ns.length := by have := IntsAre.length hi; rwa [Array.length_toList] at this
  obtain ⟨c0, t0, g1⟩ := F.called_set.mro
  have g2 := F.called_set.made
  have g3 := F.called_set.sub
  have g4 := F.called_set.notType
  have g5 := F.called_set.canCreate
  have g6 := F.typeCall_set_1 (.ref l)
  refine wpAny_call (codeAny_of_tree (show wpAny _ _ (callAny (.type "set") _) _ _ _ from wpAny_pure ⟨Code.quiet_builtin _ (by decide +kernel), codeAny_builtin F.entry_type_call ?_⟩))
  rw [Around.under_plain (weight_type_call_type "set" [.ref l] []) rfl]
  repeat (any_goals (first | assumption | wp_step))
  refine codeAny_mono (code_set_led1 (.ref l) (E := E) (Q₁ := fun v s1 => v = .ref s.heap.objs.size ∧ s1 = { s with heap := s.heap.push (sOb w) }) ⟨rfl, rfl⟩) fun r s1 hr => ?_
  match r, hr with
  | .error e, hr => exact hr
  | .ok .next, hr => exact hr.elim
  | .ok .brk, hr => exact hr.elim
  | .ok .cont, hr => exact hr.elim
  | .ok (.ret v), hr =>
    obtain ⟨rfl, rfl⟩ := hr
    have hS : (s.heap.push (sOb w)).get? s.heap.objs.size = some (sOb w) := Heap.get?_push_size _ rfl
    have hT : Shared.TypeIs { s with heap := s.heap.push (sOb w) } (.ref s.heap.objs.size) "set" := ⟨_, hS, rfl⟩
    have g7 := F.called_set.init.lookup
    have g8 := F.called_set.init.bind (.ref s.heap.objs.size)
    repeat (any_goals (first | assumption | wp_step))
    refine codeAny_mono (codeAny_call_builtin (R := wants (fun r s2 => r = .none ∧ ∃ h' tk c, s2 = { s with heap := h', toks := tk } ∧ SetDone w s ns h' c) E) F.called_set.init.plain F.entry_set_init (check_set_init_1 hT ?_)) fun r2 s2 hr2 => ?_
    · obtain ⟨ob, hob, hc, nl, hd⟩ := hl
      have hob' : (s.heap.push (sOb w)).get? l = some ob := Heap.get?_push_of_some _ hob
      have hl1 : (s.heap.push (sOb w)).IsList l its := ⟨ob, hob', hc, nl, hd⟩
      obtain ⟨oc, od, odt, os⟩ := ob
      simp only at hc hd
      subst hc; subst hd
      have g9 := F.sub_list_set
      have g10 := F.sub_list_frozenset
      have g11 : (Value.type "list" == Value.type "dict") = false := by decide
      unfold Builtin.«set.__init__» noKeywords Builtin.Frozenset.updateFrom
      generalize hit : pyIter = it
      wp_walk
      subst hit
      refine wpAny_pyIter_list hl1 (wpAny_bind (wpAny_runValue ?_))
      have lt : l < s.heap.objs.size := Heap.lt_size hob
      have hq : A.in1.in1.in1.handled = none := by simp [hh]
      have sz : (s.heap.push (sOb w)).objs.size = s.heap.objs.size + 1 := Heap.size_push ..
      have ne1 : l ≠ (s.heap.push (sOb w)).objs.size := by rw [sz]; exact Nat.ne_of_lt (Nat.lt_succ_of_lt lt)
      have ne2 : s.heap.objs.size ∉ [(s.heap.push (sOb w)).objs.size, l] := by
        rw [sz]
        simp only [List.mem_cons, List.not_mem_nil, or_false, not_or]
        exact ⟨Nat.ne_of_lt (Nat.lt_succ_self _), Nat.ne_of_gt lt⟩
      have vals : ∀ (i : Nat) (v : Value), its[i]? = some v → ∃ k t, ns[i]? = some k ∧ v = .int k t := fun i v hv => by
        have hi' : i < ns.length := by rw [← hn]; exact (Array.getElem?_eq_some_iff.mp hv).1
        obtain ⟨t, e⟩ := PyProof.Rows.IntsAre.int_at hi i v (by rw [Array.getElem?_toList]; exact hv)
        refine ⟨ns[i], t, List.getElem?_eq_getElem hi', ?_⟩
        rw [e, List.getD_eq_getElem?_getD, List.getElem?_eq_getElem hi'] <;> rfl
      refine set_update_ints ((Walks.list hq _ l ne1 its).toS) s.heap.objs.size ne2 ns hn hb vals (its.size - 0) 0 _ (by omega) (Nat.zero_le _) ⟨⟨_, Heap.get?_push_size _ rfl, rfl, rfl⟩, (hl1.push _)⟩ ?_ ?_
      · exact ⟨0, Nat.le_refl 0, setR_new_at (Heap.get?_push_of_some _ hS)⟩
      · intro s' c hm hc hR
        rw [hn] at hc
        obtain ⟨h1, h2, h3, h4, h5⟩ := s'
        have e1 : h2 = s.gens := hm.gens
        have e2 : h3 = s.drawn := hm.drawn
        have e3 : h5 = s.os := hm.os
        subst e1; subst e2; subst e3
        show wpAny _ _ _ _ _ _
        refine wpAny_pure ?_
        show wpAny _ _ (ret Value.none) _ _ _
        refine wpAny_pure ⟨rfl, h1, h4, c, rfl, ⟨hR, hc, fun b u e => ?_⟩⟩
        have lb : b < s.heap.objs.size := Heap.lt_size e
        refine hm.heap b u ?_ (Heap.get?_push_of_some _ (Heap.get?_push_of_some _ e))
        rw [sz]
        simp only [List.mem_cons, List.not_mem_nil, or_false, not_or]
        exact ⟨Nat.ne_of_lt lb, Nat.ne_of_lt (Nat.lt_succ_of_lt lb)⟩
    · match r2, hr2 with
      | .error e, hr2 => exact hr2
      | .ok .next, hr2 => exact hr2.elim
      | .ok .brk, hr2 => exact hr2.elim
      | .ok .cont, hr2 => exact hr2.elim
      | .ok (.ret v), hr2 =>
        obtain ⟨rfl, h', tk, c, rfl, hD⟩ := hr2
        repeat (any_goals (first | assumption | wp_step))
        exact k _ _ _ hD
end
/-! ### sorted(set(xs)) -/
def sortSetD : List PyData → Option RV
  | [.list ds] => (intsOf ds).bind fun ns => if ns.length ≤ 60 then some (.own (.list ((sortSetI ns).map PyData.int))) else none
  | _ => none
section
variable {X : Cx} {e : Expr} {ms : MA} {p p2 q pos : Pos}
theorem re_sortSet (hc : X.calm = true) (hg : Gl X "sorted") (hm : X.mg "sorted" = none) (hg2 : Gl X "set") (hm2 : X.mg "set" = none) (ha : PA X [e] (tAs X.K ms))
    (he : starEach [e] X.env = (false, eval e X.env) :: starEach [] X.env := by rfl) (hs : starEach [e] X.env = [(false, eval e X.env)] := by rfl) :
    PE X (.Call (.Name "sorted" p) [.Call (.Name "set" p2) [e] [] q] [] pos) (tE X.K (eCall sortSetD ms)) := by
  refine ⟨fun pins s σ H Q I h => ?_⟩
  have h := call_to h
  refine Call_ (ld_blt I hg hm PyProof.Rows.boot_sorted ?_)
  refine PyProof.Rows.callWith_builtin1 (PyProof.Rows.args_cons ?_ rfl) rfl rfl
  refine Call_ (ld_blt I hg2 hm2 PyProof.Rows.boot_set ?_)
  refine PyProof.Rows.callWith_type1 (thn (ha.run q pins s σ H _ I h) fun us s1 ⟨vs, H1, I1, r1, q1⟩ => ?_) hs rfl
  obtain ⟨F, ds, r, sm, kx, hf, g⟩ := q1
  unfold sortSetD at hf
  split at hf
  case h_2 => cases hf
  rename_i ds
  obtain ⟨ns, e1, hf⟩ := bind_some hf
  split at hf
  case isFalse => cases hf
  rename_i h60
  cases hf
  obtain ⟨a, rfl, qa⟩ := ints_arg (Q := Q) sm kx e1
  obtain ⟨u, rfl, ru⟩ := vals1 r1
  cases ru
  obtain ⟨its, rv, pl, hz⟩ := I1.list qa
  have hd := I1.ok.hd hc
  refine set_list ns hd pl.isList (ints_of_vals rv) (by unfold scanBound; omega) fun h' tk c D => ?_
  refine PyProof.Rows.args_nil ?_
  have I2 : Inv X pins σ H1 { s1 with heap := h', toks := tk } := I1.kept fun b o e => D.keep b o e
  refine sorted_set (s := { s1 with heap := h', toks := tk }) D.set (I2.ok.hd hc) (by have := D.few; omega) fun s' p out c ns' k g' o hp hg' hi hs' hm' hl => ?_
  have hlen : (ns'.map V.int).length ≤ sizeLine := by rw [List.length_map, hl, sizeLine_eq]; have := D.few; omega
  have hn : H1 p = none := I2.hok.fresh hp
  have J : Inv X pins σ (upd H1 p (.lst (ns'.map V.int))) { ({ s1 with heap := h', toks := tk } : Shared) with heap := s'.heap, gens := s'.gens, drawn := s'.drawn, toks := s'.toks } :=
    I2.call (ch := []) (Un.laid k hp hn) (I2.hok.laid k hp ⟨hlen, out.toList, c, vals_of_ints hi, hg'⟩) (by rw [g']; exact I2.bare) (fun _ z => nomatch z)
  have e : s' = { s1 with heap := s'.heap, gens := s'.gens, drawn := s'.drawn, toks := s'.toks } := by
    cases s'
    cases s1
    cases o
    rfl
  have en : ns' = sortSetI ns := lt_unique hs' (sortSet_lt ns) fun j => by rw [hm' j, mem_sortSet, decide_eq_true_eq]
  rw [e]
  refine ⟨.ref p, _, J, rfl, ?_⟩
  subst en
  exact g.newList sm (rp_intsL _) hn
end
theorem sortSetD_l {ds : List PyData} : sortSetD [.list ds] = (intsOf ds).bind fun ns => if ns.length ≤ 60 then some (.own (.list ((sortSetI ns).map PyData.int))) else none := rfl
end L3

/-! L4G: pop, reverse, clear, insert of an owned list. -/
namespace L3
open PySem PySem.Spec PyProof.Rows L2
/-- o.pop() -/
def ePop0 (o : Nat) : ME := fun env => (ownL env o).bind fun w => (w.2[w.2.length - 1]?).bind fun d => some (env.set o (w.1.put (.list w.2.dropLast)), .fz d)
/-- o.reverse() -/
def eRvs (o : Nat) : ME := fun env => (ownL env o).bind fun w => some (env.set o (w.1.put (.list w.2.reverse)), .fz .none)
/-- o.clear() -/
def eClr (o : Nat) : ME := fun env => (ownL env o).bind fun w => some (env.set o (w.1.put (.list [])), .fz .none)
/-- o.insert(i, e) -/
def eIns (o : Nat) (mi me : ME) : ME := fun env => (ownL env o).bind fun _ => (mi env).bind fun p => (intOf p.2).bind fun i => (me p.1).bind fun q => (q.2.fix q.1).bind fun s => (ownL s.1 o).bind fun w =>
  if w.2.length < lineN ∧ 0 ≤ i ∧ i < 9223372036854775808 then some (s.1.set o (w.1.put (.list (w.2.take i.toNat ++ [s.2] ++ w.2.drop i.toNat))), .fz .none) else none
theorem RpAll.dropLast {K : PySem.W.Frag} {F : Hp} {vs : List V} {ds : List PyData} (h : RpAll K F vs ds) : RpAll K F vs.dropLast ds.dropLast := by
  rw [List.dropLast_eq_take, List.dropLast_eq_take, h.length]
  exact h.take _
section
variable {X : Cx} {oe ie e : Expr} {o : Nat} {mi me : ME} {pos apos cpos : Pos}
theorem pop0_to {K : PySem.W.Frag} {σ : L2.St} {H : Hp} {Q : VK} (h : tE K (ePop0 o) σ H Q) : tBM0 K "list" rPop (tVar o) σ H Q := by
  obtain ⟨F, env, A, env', r, em, k⟩ := h
  obtain ⟨⟨x, ds⟩, e0, em⟩ := bind_some em
  obtain ⟨d, e1, em⟩ := bind_some em
  cases em
  obtain ⟨g1, g2⟩ := ownL_some e0
  obtain ⟨a, ha, fa, xs, hx, rx⟩ := A.own (a := 0) g1 g2
  obtain ⟨y, hy, ry⟩ := rx.get e1
  obtain ⟨A3, f3⟩ := put_own (d' := .list ds.dropLast) (o := .lst xs.dropLast) A g1 g2 ha ⟨_, upd_same, rx.dropLast⟩
  exact ⟨.ref a, ha, .inl ⟨rfl, xs, SqL.of hx⟩, a, xs, y, rfl, rfl, hx, by rw [rx.length]; exact hy, k y F _ A3 f3 ry trivial⟩
theorem rvs_to {K : PySem.W.Frag} {σ : L2.St} {H : Hp} {Q : VK} (h : tE K (eRvs o) σ H Q) : tBM0 K "list" rReverse (tVar o) σ H Q := by
  obtain ⟨F, env, A, env', r, em, k⟩ := h
  obtain ⟨⟨x, ds⟩, e0, em⟩ := bind_some em
  cases em
  obtain ⟨g1, g2⟩ := ownL_some e0
  obtain ⟨a, ha, fa, xs, hx, rx⟩ := A.own (a := 0) g1 g2
  obtain ⟨A3, f3⟩ := put_own (d' := .list ds.reverse) (o := .lst xs.reverse) A g1 g2 ha ⟨_, upd_same, rx.reverse⟩
  exact ⟨.ref a, ha, .inl ⟨rfl, xs, SqL.of hx⟩, a, xs, rfl, rfl, hx, k .non F _ A3 f3 Rp.non trivial⟩
theorem clr_to {K : PySem.W.Frag} {σ : L2.St} {H : Hp} {Q : VK} (h : tE K (eClr o) σ H Q) : tBM0 K "list" rClear (tVar o) σ H Q := by
  obtain ⟨F, env, A, env', r, em, k⟩ := h
  obtain ⟨⟨x, ds⟩, e0, em⟩ := bind_some em
  cases em
  obtain ⟨g1, g2⟩ := ownL_some e0
  obtain ⟨a, ha, fa, xs, hx, rx⟩ := A.own (a := 0) g1 g2
  obtain ⟨A3, f3⟩ := put_own (d' := .list []) (o := .lst []) A g1 g2 ha ⟨_, upd_same, .nil⟩
  exact ⟨.ref a, ha, .inl ⟨rfl, xs, SqL.of hx⟩, a, xs, rfl, rfl, hx, k .non F _ A3 f3 Rp.non trivial⟩
def rIns : V → List V → Hp → VK → Prop := fun x vs H Q => ∃ (l : Addr) (xs : List V) (i : Int) (y : V), x = .ref l ∧ vs = [.int i, y] ∧ H l = some (.lst xs) ∧ xs.length < sizeLine ∧ 0 ≤ i ∧ i < 2 ^ 63 ∧
    Q .non (upd H l (.lst (xs.take i.toNat ++ [y] ++ xs.drop i.toNat)))
theorem ins_to {K : PySem.W.Frag} {σ : L2.St} {H : Hp} {Q : VK} (h : tE K (eIns o mi me) σ H Q) : tBM K "list" rIns (tVar o) (tCons (tE K mi) (tCons (tE K me) tNil)) σ H Q := by
  obtain ⟨F, env, A, env', r, em, k⟩ := h
  obtain ⟨⟨x0, ds0⟩, e0, em⟩ := bind_some em
  obtain ⟨⟨env1, r1⟩, e1, em⟩ := bind_some em
  obtain ⟨i, e2, em⟩ := bind_some em
  obtain ⟨⟨env2, r2⟩, e3, em⟩ := bind_some em
  obtain ⟨⟨env3, d⟩, e4, em⟩ := bind_some em
  obtain ⟨⟨x, ds⟩, e5, em⟩ := bind_some em
  split at em
  case isFalse => cases em
  rename_i hz
  cases em
  obtain ⟨g1, g2⟩ := ownL_some e0
  obtain ⟨a, ha, fa, ys, hy, ry⟩ := A.own (a := 0) g1 g2
  refine ⟨.ref a, ha, .inl ⟨rfl, ys, SqL.of hy⟩, F, env, A, env1, r1, e1, fun u F1 H1 A1 f1 o1 n1 => ?_⟩
  have e2' : r1 = .fz (.int i) := intOf_some e2
  subst e2'
  cases (show Rp K F1 u (.int i) from o1)
  refine ⟨F1, env1, A1, env2, r2, e3, fun v F2 H2 A2 f2 o2 n2 => ?_⟩
  obtain ⟨F3, A3, f3, rd, s3⟩ := fix_one A2 f2 o2 n2 e4
  obtain ⟨g3, g4⟩ := ownL_some e5
  obtain ⟨a', ha', fa', xs, hx, rx⟩ := A3.own (a := 0) g3 g4
  rw [ha] at ha'
  cases ha'
  have hl : xs.length < sizeLine := by rw [rx.length, ← lineN_eq]; exact hz.1
  obtain ⟨A4, f4⟩ := put_own (d' := .list (ds.take i.toNat ++ [d] ++ ds.drop i.toNat)) (o := .lst (xs.take i.toNat ++ [v] ++ xs.drop i.toNat)) A3 g3 g4 ha ⟨_, upd_same, ((rx.take _).append (.cons rd .nil)).append (rx.drop _)⟩
  exact ⟨a, xs, i, v, rfl, rfl, hx, hl, hz.2.1, hz.2.2, k .non F3 _ A4 ((f1.trans f3).trans f4) Rp.non trivial⟩
theorem re_pop0 (ho : PE X oe (tVar o)) (hbase : attributeBase oe "pop" X.env (eval oe X.env) = eval oe X.env := by rfl) (hline : (apos.endLine == cpos.line) = true := by rfl) :
    PE X (.Call (.Attribute oe "pop" apos) [] [] cpos) (tE X.K (ePop0 o)) :=
  pe_imp (pe_bm0 PySem.F.plainAttrs_list PySem.F.slot_list_pop PySem.F.type_list_pop mt_pop ho hbase hline) fun _ _ _ => pop0_to
theorem re_rvs (ho : PE X oe (tVar o)) (hbase : attributeBase oe "reverse" X.env (eval oe X.env) = eval oe X.env := by rfl) (hline : (apos.endLine == cpos.line) = true := by rfl) :
    PE X (.Call (.Attribute oe "reverse" apos) [] [] cpos) (tE X.K (eRvs o)) :=
  pe_imp (pe_bm0 PySem.F.plainAttrs_list PySem.F.slot_list_reverse PySem.F.type_list_reverse mt_reverse ho hbase hline) fun _ _ _ => rvs_to
theorem re_clr (ho : PE X oe (tVar o)) (hbase : attributeBase oe "clear" X.env (eval oe X.env) = eval oe X.env := by rfl) (hline : (apos.endLine == cpos.line) = true := by rfl) :
    PE X (.Call (.Attribute oe "clear" apos) [] [] cpos) (tE X.K (eClr o)) :=
  pe_imp (pe_bm0 PySem.F.plainAttrs_list PySem.F.slot_list_clear PySem.F.type_list_clear mt_clear ho hbase hline) fun _ _ _ => clr_to
theorem re_ins (ho : PE X oe (tVar o)) (hi : PE X ie (tE X.K mi)) (he : PE X e (tE X.K me)) (hbase : attributeBase oe "insert" X.env (eval oe X.env) = eval oe X.env := by rfl)
    (hfew : ((backTo cpos (starEach [ie, e] X.env)).all (fun x => !x.1) && (backToKw cpos (keywordEach [] X.env)).all (fun x => x.1.isSome) && decide ([ie, e].length + ([] : List Keyword).length + (if ([] : List Keyword).isEmpty then 0 else 1) < 30)) = true := by rfl)
    (hline : (apos.endLine == cpos.line) = true := by rfl) (hs : starEach [ie, e] X.env = (false, eval ie X.env) :: starEach [e] X.env := by rfl) (hs2 : starEach [e] X.env = (false, eval e X.env) :: starEach [] X.env := by rfl) (hplain : (backTo cpos (starEach [e] X.env)).any (·.1) = false := by rfl) :
    PE X (.Call (.Attribute oe "insert" apos) [ie, e] [] cpos) (tE X.K (eIns o mi me)) :=
  pe_imp (pe_bm PySem.F.plainAttrs_list PySem.F.slot_list_insert PySem.F.type_list_insert mt_insert ho (pa_cons hi (pa_cons he pa_nil hs2) hs) hbase hfew hline hs hplain) fun _ _ _ => ins_to
end
/-! steps -/
section
variable {env : MEnv} {Pe : MEnv → RV → Prop} {ds : List PyData} {o : Nat} {mi me : ME} {r : RV} {d : PyData}
def kPop0 (o : Nat) (P : MEnv → RV → Prop) (e : MEnv) (w : SV × List PyData) : Prop := Wp (w.2[w.2.length - 1]?) fun d => P (e.set o (w.1.put (.list w.2.dropLast))) (.fz d)
theorem we_pop0 : WE (ePop0 o) env Pe ↔ WL env o (kPop0 o Pe env) := by
  simp only [WE, WL, ePop0, kPop0, wp_bind, wp_some]
  exact Iff.rfl
theorem kPop0_eq {x : SV} : kPop0 o Pe env (x, ds) ↔ Wp (ds[ds.length - 1]?) fun d => Pe (env.set o (x.put (.list ds.dropLast))) (.fz d) := Iff.rfl
def kRvs (o : Nat) (P : MEnv → RV → Prop) (e : MEnv) (w : SV × List PyData) : Prop := P (e.set o (w.1.put (.list w.2.reverse))) (.fz .none)
theorem we_rvs : WE (eRvs o) env Pe ↔ WL env o (kRvs o Pe env) := by
  simp only [WE, WL, eRvs, kRvs, wp_bind, wp_some]
  exact Iff.rfl
theorem kRvs_eq {x : SV} : kRvs o Pe env (x, ds) ↔ Pe (env.set o (x.put (.list ds.reverse))) (.fz .none) := Iff.rfl
def kClr (o : Nat) (P : MEnv → RV → Prop) (e : MEnv) (w : SV × List PyData) : Prop := P (e.set o (w.1.put (.list []))) (.fz .none)
theorem we_clr : WE (eClr o) env Pe ↔ WL env o (kClr o Pe env) := by
  simp only [WE, WL, eClr, kClr, wp_bind, wp_some]
  exact Iff.rfl
theorem kClr_eq {x : SV} : kClr o Pe env (x, ds) ↔ Pe (env.set o (x.put (.list []))) (.fz .none) := Iff.rfl
def kIns4 (o : Nat) (i : Int) (d : PyData) (P : MEnv → RV → Prop) (e : MEnv) (w : SV × List PyData) : Prop := (w.2.length < lineN ∧ 0 ≤ i ∧ i < 9223372036854775808) ∧ P (e.set o (w.1.put (.list (w.2.take i.toNat ++ [d] ++ w.2.drop i.toNat)))) (.fz .none)
def kIns3 (o : Nat) (i : Int) (P : MEnv → RV → Prop) (e : MEnv) (d : PyData) : Prop := WL e o (kIns4 o i d P e)
def kIns2 (o : Nat) (i : Int) (P : MEnv → RV → Prop) (e : MEnv) (r : RV) : Prop := WF r e (kIns3 o i P)
def kIns1 (o : Nat) (me : ME) (P : MEnv → RV → Prop) (e : MEnv) : RV → Prop
  | .fz (.int i) => WE me e (kIns2 o i P)
  | _ => False
def kIns0 (o : Nat) (mi me : ME) (P : MEnv → RV → Prop) (e : MEnv) (w : SV × List PyData) : Prop := WE mi e (kIns1 o me P)
theorem we_ins : WE (eIns o mi me) env Pe ↔ WL env o (kIns0 o mi me Pe env) := by
  simp only [WE, WL, WF, eIns, kIns0, wp_bind, wp_guard, wp_some]
  refine ⟨fun h => Wp.imp h fun w h => Wp.imp h fun p h => ?_, fun h => Wp.imp h fun w h => Wp.imp h fun p h => ?_⟩
  · obtain ⟨i, e1, h⟩ := h
    rw [intOf_some e1]
    exact h
  · unfold kIns1 at h
    split at h
    · rename_i hx
      rw [hx]
      exact ⟨_, rfl, h⟩
    · exact h.elim
theorem kIns0_eq {w : SV × List PyData} : kIns0 o mi me Pe env w ↔ WE mi env (kIns1 o me Pe) := Iff.rfl
theorem kIns1_eq {i : Int} : kIns1 o me Pe env (.fz (.int i)) ↔ WE me env (kIns2 o i Pe) := Iff.rfl
theorem kIns2_eq {i : Int} : kIns2 o i Pe env r ↔ WF r env (kIns3 o i Pe) := Iff.rfl
theorem kIns3_eq {i : Int} : kIns3 o i Pe env d ↔ WL env o (kIns4 o i d Pe env) := Iff.rfl
theorem kIns4_eq {i : Int} {x : SV} : kIns4 o i d Pe env (x, ds) ↔ (ds.length < lineN ∧ 0 ≤ i ∧ i < 9223372036854775808) ∧ Pe (env.set o (x.put (.list (ds.take i.toNat ++ [d] ++ ds.drop i.toNat)))) (.fz .none) := Iff.rfl
end
end L3

/-! L4H: max of three ints. -/
namespace L3
open PySem PySem.Spec PyProof.Rows L2
def max3D : List PyData → Option RV
  | [.int a, .int b, .int c] => some (.fz (.int (max (max a b) c)))
  | _ => none
theorem nuMax2_i (a b : Int) : nuMax2 (.int a) (.int b) = some (.int (max a b)) := by
  have e : nuLt (.int a) (.int b) = some (decide (a < b)) := rfl
  unfold nuMax2
  rw [e]
  by_cases h : a < b
  · simp [h, Int.max_eq_right (Int.le_of_lt h)]
  · simp [h, Int.max_eq_left (Int.not_lt.mp h)]
section
variable {X : Cx}
theorem c_max3 (hc : X.calm = true) : CallR X (.builtin "max") (rCall X.K max3D) := by
  intro pins s σ H xs us Q I r ⟨F, ds, rv, sm, kx, hf, g⟩
  unfold max3D at hf
  split at hf
  case h_2 => cases hf
  rename_i a b c
  cases hf
  cases kx with
  | cons k1 kx =>
    cases kx with
    | cons k2 kx =>
      cases kx with
      | cons k3 kx =>
        cases kx
        rw [k1.int, k2.int, k3.int] at r
        refine call_max3Nu hc pins s σ H _ us Q I r ⟨_, _, _, .int (max (max a b) c), rfl, ?_, g.flat sm (.int _)⟩
        unfold nuMax3
        rw [nuMax2_i]
        exact nuMax2_i _ _
end
theorem max3D_i {a b c : Int} : max3D [.int a, .int b, .int c] = some (.fz (.int (max (max a b) c))) := rfl
end L3

/-! L4I: dicts of tuples, step by step. -/
namespace L3
open PySem PySem.Spec PyProof.Rows L2
section
variable {e : MEnv} {o : Nat} {mi me : ME} {P : Out → Prop} {r r2 : RV} {k : List Key} {d : PyData} {kvs : List (PyData × PyData)} {x : SV}
def kST6 (o : Nat) (k : List Key) (d : PyData) (P : Out → Prop) (e : MEnv) (w : SV × List (PyData × PyData)) : Prop := (tupKs w.2 = true ∧ w.2.length < lineN) ∧ P (.nx (e.set o (w.1.put (.dict (putTD w.2 k d)))))
def kST5 (o : Nat) (k : List Key) (P : Out → Prop) (e : MEnv) (d : PyData) : Prop := WK e o (kST6 o k d P e)
def kST4b (o : Nat) (r : RV) (P : Out → Prop) (e : MEnv) (k : List Key) : Prop := WF r e (kST5 o k P)
def kST4 (o : Nat) (r : RV) (P : Out → Prop) (e : MEnv) (kd : PyData) : Prop := Wp (keyT kd) (kST4b o r P e)
def kST3 (o : Nat) (r : RV) (P : Out → Prop) (e : MEnv) (r2 : RV) : Prop := WV r2 e (kST4 o r P e)
def kST2 (o : Nat) (mi : ME) (r : RV) (P : Out → Prop) (e : MEnv) (w : SV × List (PyData × PyData)) : Prop := WE mi e (kST3 o r P)
def kST1 (o : Nat) (mi : ME) (P : Out → Prop) (e : MEnv) (r : RV) : Prop := WK e o (kST2 o mi r P e)
theorem ws_setKeyT : WS (sSetKeyT o mi me) e P ↔ WE me e (kST1 o mi P) := by
  simp only [WS, sSetKeyT, wp_bind, wp_guard, wp_some]
  exact Iff.rfl
theorem kST1_eq : kST1 o mi P e r ↔ WK e o (kST2 o mi r P e) := Iff.rfl
theorem kST2_eq {w : SV × List (PyData × PyData)} : kST2 o mi r P e w ↔ WE mi e (kST3 o r P) := Iff.rfl
theorem kST3_eq : kST3 o r P e r2 ↔ WV r2 e (kST4 o r P e) := Iff.rfl
theorem kST4_eq {kd : PyData} : kST4 o r P e kd ↔ Wp (keyT kd) (kST4b o r P e) := Iff.rfl
theorem kST4b_eq : kST4b o r P e k ↔ WF r e (kST5 o k P) := Iff.rfl
theorem kST5_eq : kST5 o k P e d ↔ WK e o (kST6 o k d P e) := Iff.rfl
theorem kST6_eq : kST6 o k d P e (x, kvs) ↔ (tupKs kvs = true ∧ kvs.length < lineN) ∧ P (.nx (e.set o (x.put (.dict (putTD kvs k d))))) := Iff.rfl
end
section
variable {x y z : Int} {s t : Str} {kvs : List (PyData × PyData)}
theorem keyT_ii : keyT (.tuple [.int x, .int y]) = some [.inl x, .inl y] := rfl
theorem keyT_ss : keyT (.tuple [.str s, .str t]) = some [.inr s, .inr t] := rfl
theorem keyT_iis : keyT (.tuple [.int x, .int y, .str s]) = some [.inl x, .inl y, .inr s] := rfl
theorem inD_tii : inD (.tuple [.int x, .int y]) (.dict kvs) = if tupKs kvs = true then some (.fz (.bool (findT [.inl x, .inl y] kvs).isSome)) else none := rfl
theorem notInD_tii : notInD (.tuple [.int x, .int y]) (.dict kvs) = if tupKs kvs = true then some (.fz (.bool (!(findT [.inl x, .inl y] kvs).isSome))) else none := rfl
theorem inD_tiis : inD (.tuple [.int x, .int y, .str s]) (.dict kvs) = if tupKs kvs = true then some (.fz (.bool (findT [.inl x, .inl y, .inr s] kvs).isSome)) else none := rfl
theorem notInD_tiis : notInD (.tuple [.int x, .int y, .str s]) (.dict kvs) = if tupKs kvs = true then some (.fz (.bool (!(findT [.inl x, .inl y, .inr s] kvs).isSome))) else none := rfl
theorem ixD_tiis : ixD (.dict kvs) (.tuple [.int x, .int y, .str s]) = if tupKs kvs = true then (findT [.inl x, .inl y, .inr s] kvs).bind fun d => some (.fz d) else none := rfl
end
theorem findT_append (j : List Key) : ∀ (D : List (PyData × PyData)) (k : List Key) (d : PyData), findT j (D ++ [(.tuple (k.map keyD), d)]) = match findT j D with | some z => some z | none => if k = j then some d else none
  | [], k, d => by
    show (if keyT (.tuple (k.map keyD)) = some j then some d else none) = _
    rw [keyT_keyD]
    by_cases h : k = j
    · rw [if_pos (by rw [h])]; exact (if_pos h).symm
    · rw [if_neg (fun z => h (Option.some.inj z))]; exact (if_neg h).symm
  | p :: D, k, d => by
    show (if keyT p.1 = some j then some p.2 else findT j (D ++ [(.tuple (k.map keyD), d)])) = match (if keyT p.1 = some j then some p.2 else findT j D) with | some z => some z | none => if k = j then some d else none
    by_cases hp : keyT p.1 = some j
    · rw [if_pos hp, if_pos hp]
    · rw [if_neg hp, if_neg hp]
      exact findT_append j D k d
theorem findT_mapU (j k : List Key) (d : PyData) : ∀ D : List (PyData × PyData), findT j (D.map fun p => if keyT p.1 = some k then (p.1, d) else p) = (findT j D).map fun z => if k = j then d else z
  | [] => rfl
  | p :: D => by
    rw [List.map_cons]
    show (if keyT (if keyT p.1 = some k then (p.1, d) else p).1 = some j then some (if keyT p.1 = some k then (p.1, d) else p).2 else findT j (D.map fun p => if keyT p.1 = some k then (p.1, d) else p)) = Option.map _ (if keyT p.1 = some j then some p.2 else findT j D)
    rw [findT_mapU j k d D]
    by_cases hp : keyT p.1 = some k
    · rw [if_pos hp]
      by_cases hj : keyT p.1 = some j
      · rw [if_pos hj, if_pos hj]
        have e : k = j := by rw [hp] at hj; exact Option.some.inj hj
        simp [e]
      · rw [if_neg hj, if_neg hj]
    · rw [if_neg hp]
      by_cases hj : keyT p.1 = some j
      · rw [if_pos hj, if_pos hj]
        have e : ¬ k = j := fun z => hp (by rw [z]; exact hj)
        simp [e]
      · rw [if_neg hj, if_neg hj]
/-- what stands in a dict behind a store -/
theorem findT_put {j k : List Key} {d : PyData} {D : List (PyData × PyData)} : findT j (putTD D k d) = if k = j then some d else findT j D := by
  unfold putTD
  split
  · rename_i h
    rw [findT_mapU]
    by_cases e : k = j
    · subst e
      obtain ⟨z, hz⟩ := Option.isSome_iff_exists.mp h
      rw [hz]
      simp
    · rw [if_neg e]
      cases findT j D with
      | none => rfl
      | some z => simp [e]
  · rename_i h
    have h0 : findT k D = none := by
      cases hf : findT k D with
      | none => rfl
      | some z => rw [hf] at h; exact (h rfl).elim
    rw [findT_append]
    by_cases e : k = j
    · subst e
      simp [h0]
    · cases findT j D with
      | none => simp [e]
      | some z => simp [e]
theorem tupKs_put {k : List Key} {d : PyData} {D : List (PyData × PyData)} (h : tupKs D = true) : tupKs (putTD D k d) = true := by
  unfold tupKs at *
  rw [List.all_eq_true] at *
  intro p hp
  unfold putTD at hp
  split at hp
  · obtain ⟨q, hq, rfl⟩ := List.mem_map.mp hp
    split
    · exact h q hq
    · exact h q hq
  · rcases List.mem_append.mp hp with hp | hp
    · exact h p hp
    · rw [List.mem_singleton.mp hp]
      show (keyT (.tuple (k.map keyD))).isSome = true
      rw [keyT_keyD]
      rfl
theorem len_put {k : List Key} {d : PyData} {D : List (PyData × PyData)} : (putTD D k d).length ≤ D.length + 1 := by
  unfold putTD
  split
  · rw [List.length_map]; omega
  · rw [List.length_append, List.length_singleton]; omega
theorem tupKs_nil : tupKs [] = true := rfl
theorem findT_nil {k : List Key} : findT k [] = none := rfl
end L3

/-! L4J: list(range(a, b)), and two names at once. -/
namespace L3
open PySem PySem.Spec PyProof.Rows L2
/-- list(range(a, b)) -/
def eLRg (ma mb : ME) : ME := fun env => (ma env).bind fun p => (mb p.1).bind fun q => (intOf p.2).bind fun i => (intOf q.2).bind fun j =>
  if -(2 ^ 62) ≤ i ∧ i < 2 ^ 62 ∧ -(2 ^ 62) ≤ j ∧ j < 2 ^ 62 ∧ (j - i).toNat ≤ 2 ^ 24 then some (q.1, .own (.list (rangeD i j))) else none
/-- a, b = e1, e2 -/
def sPar (i j : Nat) (ms : MA) : MS := fun env => (ms env).bind fun p => (fixAll p.1 p.2).bind fun q => match q.2 with
  | [d1, d2] => (gSlot i d1 q.1).bind fun e1 => (gSlot j d2 e1).bind fun e2 => some (.nx e2)
  | _ => none
theorem rp_rg {K : PySem.W.Frag} {F : Hp} (a b : Int) : RpAll K F (rgV a b) (rangeD a b) := by
  have h := rp_intsL (K := K) (F := F) ((List.range (b - a).toNat).map fun k => a + ((k : Nat) : Int))
  rw [List.map_map, List.map_map] at h
  exact h
section
variable {X : Cx} {a b e1 e2 : Expr} {ma mb : ME} {ms : MA} {p p2 q pos : Pos}
theorem re_lrg (hc : X.calm = true) (hg : Gl X "list") (hm : X.mg "list" = none) (hg2 : Gl X "range") (hm2 : X.mg "range" = none) (ha : PE X a (tE X.K ma)) (hb : PE X b (tE X.K mb))
    (h1 : starEach [.Call (.Name "range" p2) [a, b] [] q] X.env = (false, eval (.Call (.Name "range" p2) [a, b] [] q) X.env) :: starEach [] X.env := by rfl)
    (h2 : starEach [a, b] X.env = (false, eval a X.env) :: starEach [b] X.env := by rfl) (h3 : starEach [b] X.env = (false, eval b X.env) :: starEach [] X.env := by rfl) (h4 : (backTo q (starEach [b] X.env)).any (·.1) = false := by rfl) :
    PE X (.Call (.Name "list" p) [.Call (.Name "range" p2) [a, b] [] q] [] pos) (tE X.K (eLRg ma mb)) := by
  refine pe_imp (pe_listRg hc hg hm (prg_2 hg2 hm2 ha hb h2 h3 h4) h1) fun σ H Q ⟨F, env, A, env', r, em, k⟩ => ?_
  obtain ⟨⟨env1, r1⟩, g1, em⟩ := bind_some em
  obtain ⟨⟨env2, r2⟩, g2, em⟩ := bind_some em
  obtain ⟨i, g3, em⟩ := bind_some em
  obtain ⟨j, g4, em⟩ := bind_some em
  split at em
  case isFalse => cases em
  rename_i hz
  cases em
  have e3 : r1 = .fz (.int i) := intOf_some g3
  have e4 : r2 = .fz (.int j) := intOf_some g4
  subst e3 e4
  refine ⟨F, env, A, env1, _, g1, fun v F1 H1 A1 f1 o1 n1 => ?_⟩
  cases (show Rp X.K F1 v (.int i) from o1)
  refine ⟨F1, env1, A1, env2, _, g2, fun u F2 H2 A2 f2 o2 n2 => ?_⟩
  cases (show Rp X.K F2 u (.int j) from o2)
  exact ⟨i, j, rfl, rfl, hz, fun q hq => (gives_to A2 (f1.trans f2) k).newList A2.same (rp_rg i j) hq⟩
theorem rs_par {i j : Nat} {x y : Str} {px py pt : Pos} {kt k2 pt2} (hc : X.calm = true) (hN : X.N.Nodup) (hi : X.N[i]? = some x) (hj : X.N[j]? = some y) (hij : i ≠ j)
    (hx : X.env.scope.names.lookup x = some .local) (hy : X.env.scope.names.lookup y = some .local) (ha : PA X [e1, e2] (tAs X.K ms))
    (hw : swappedStores [.Tuple [.Name x px, .Name y py] kt pt] (.Tuple [e1, e2] k2 pt2) X.env = pure (some [x, y]))
    (hs : swapsWithSole [.Tuple [.Name x px, .Name y py] kt pt] (.Tuple [e1, e2] k2 pt2) pos.line X.env = pure false := by rfl) :
    PS X (.Assign [.Tuple [.Name x px, .Name y py] kt pt] (.Tuple [e1, e2] k2 pt2) pos) (tS X.K (sPar i j ms)) := by
  refine ps_imp (ps_par hc hN hi hj hij hx hy ha hw hs) fun D σ H ⟨F, env, A, o, em, k⟩ => ?_
  obtain ⟨⟨env1, rs⟩, g1, em⟩ := bind_some em
  obtain ⟨⟨env2, ds⟩, g2, em⟩ := bind_some em
  split at em
  case h_2 => cases em
  rename_i d1 d2 hq
  dsimp only at hq
  subst hq
  obtain ⟨env3, g3, em⟩ := bind_some em
  obtain ⟨env4, g4, em⟩ := bind_some em
  cases em
  refine ⟨F, env, A, env1, rs, g1, fun vs F1 H1 A1 f1 o1 n1 => ?_⟩
  obtain ⟨F2, A2, f2, r2, s2⟩ := fix_all A1 f1 o1 n1 g2
  cases r2 with
  | cons ra r2 =>
    cases r2 with
    | cons rb r2 =>
      cases r2
      obtain ⟨x3, q3, l3, e3⟩ := gSlot_some g3
      obtain ⟨x4, q4, l4, e4⟩ := gSlot_some g4
      subst e3 e4
      obtain ⟨A3, f3⟩ := bind_frozen A2 q3 l3 ra
      obtain ⟨A4, f4⟩ := bind_frozen A3 q4 l4 rb
      exact ⟨_, _, rfl, k _ F2 H1 A4 ((f2.trans f3).trans f4)⟩
end
section
variable {e : MEnv} {i j : Nat} {ma mb : ME} {ms : MA} {P : Out → Prop} {Pe : MEnv → RV → Prop} {rs : List RV} {d1 d2 : PyData}
def kLR2 (x : Int) (P : MEnv → RV → Prop) (e : MEnv) : RV → Prop
  | .fz (.int y) => (-(2 ^ 62) ≤ x ∧ x < 2 ^ 62 ∧ -(2 ^ 62) ≤ y ∧ y < 2 ^ 62 ∧ (y - x).toNat ≤ 2 ^ 24) ∧ P e (.own (.list (rangeD x y)))
  | _ => False
def kLR1 (mb : ME) (P : MEnv → RV → Prop) (e : MEnv) : RV → Prop
  | .fz (.int x) => WE mb e (kLR2 x P)
  | _ => False
theorem we_lrg : WE (eLRg ma mb) e Pe ↔ WE ma e (kLR1 mb Pe) := by
  simp only [WE, eLRg, wp_bind, wp_guard, wp_some]
  refine ⟨fun h => h.imp fun p h => ?_, fun h => h.imp fun p h => ?_⟩
  · obtain ⟨p1, p2⟩ := p
    obtain ⟨⟨q1, q2⟩, g1, i, g2, j, g3, g4, g5⟩ := h
    have e1 : p2 = .fz (.int i) := intOf_some g2
    have e2 : q2 = .fz (.int j) := intOf_some g3
    subst e1 e2
    exact ⟨_, g1, g4, g5⟩
  · obtain ⟨p1, p2⟩ := p
    match p2, h with
    | .fz (.int i), h =>
      obtain ⟨⟨q1, q2⟩, g1, h⟩ := h
      match q2, h with
      | .fz (.int j), h => exact ⟨_, g1, i, rfl, j, rfl, h.1, h.2⟩
theorem kLR1_eq {x : Int} : kLR1 mb Pe e (.fz (.int x)) ↔ WE mb e (kLR2 x Pe) := Iff.rfl
theorem kLR2_eq {x y : Int} : kLR2 x Pe e (.fz (.int y)) ↔ (-(2 ^ 62) ≤ x ∧ x < 2 ^ 62 ∧ -(2 ^ 62) ≤ y ∧ y < 2 ^ 62 ∧ (y - x).toNat ≤ 2 ^ 24) ∧ Pe e (.own (.list (rangeD x y))) := Iff.rfl
def kParc (j : Nat) (d : PyData) (P : Out → Prop) (e : MEnv) : Prop := WG (gSlot j) d e (kAsgB P)
def kParb (i j : Nat) (P : Out → Prop) (e : MEnv) : List PyData → Prop
  | [d1, d2] => WG (gSlot i) d1 e (kParc j d2 P)
  | _ => False
def kPar (i j : Nat) (P : Out → Prop) (e : MEnv) (rs : List RV) : Prop := WFs rs e (kParb i j P)
theorem ws_par : WS (sPar i j ms) e P ↔ WA ms e (kPar i j P) := by
  simp only [WS, WA, WFs, kPar, sPar, wp_bind]
  refine ⟨fun h => h.imp fun p h => h.imp fun q h => ?_, fun h => h.imp fun p h => h.imp fun q h => ?_⟩
  · obtain ⟨q1, q2⟩ := q
    match q2, h with
    | [d1, d2], h => exact (wp_bind.mp h).imp fun x h => (wp_bind.mp h).imp fun y h => (wp_some.mp h :)
    | [], h => exact (wp_none.mp h).elim
    | [_], h => exact (wp_none.mp h).elim
    | _ :: _ :: _ :: _, h => exact (wp_none.mp h).elim
  · obtain ⟨q1, q2⟩ := q
    match q2, h with
    | [d1, d2], h => exact wp_bind.mpr (Wp.imp h fun x h => wp_bind.mpr (Wp.imp h fun y h => wp_some.mpr h))
theorem kPar_eq : kPar i j P e rs ↔ WFs rs e (kParb i j P) := Iff.rfl
theorem kParb_eq : kParb i j P e [d1, d2] ↔ WG (gSlot i) d1 e (kParc j d2 P) := Iff.rfl
theorem kParc_eq : kParc j d2 P e ↔ WG (gSlot j) d2 e (kAsgB P) := Iff.rfl
end
end L3

/-! L4K: min of a list of any data that compare, with default=None; data less than data. -/
namespace L3
open PySem PySem.Spec PyProof.Rows L2
/-- all of these compare with one another -/
def canCmp (ds : List PyData) : Bool := (ds.all fun d => ds.all fun e => PySem.W.alike d e) && (ds.all fun d => !isNone d) && ds.all fun d => decide (d.depth ≤ 50)
def minAD : List PyData → Option RV
  | [.list (d :: ds)] => if canCmp (d :: ds) = true then some (.fz (PySem.W.minD d ds)) else none
  | _ => none
theorem depthAll_le {n : Nat} : ∀ {ds : List PyData}, (∀ d ∈ ds, d.depth ≤ n) → PyData.depthAll ds ≤ n
  | [], _ => Nat.zero_le _
  | d :: ds, h => by
    have h1 := h d (List.mem_cons_self ..)
    have h2 := depthAll_le fun e he => h e (List.mem_cons_of_mem _ he)
    show max _ _ ≤ n
    omega
theorem can_cmp {ds : List PyData} (h : canCmp ds = true) : PySem.W.AlikeAll ds ∧ PyData.depthAll ds ≤ 50 := by
  unfold canCmp at h
  rw [Bool.and_eq_true, Bool.and_eq_true, List.all_eq_true, List.all_eq_true, List.all_eq_true] at h
  obtain ⟨⟨h1, h2⟩, h3⟩ := h
  refine ⟨⟨fun d hd e he => List.all_eq_true.mp (h1 d hd) e he, fun d hd z => ?_⟩, depthAll_le fun d hd => of_decide_eq_true (h3 d hd)⟩
  have := h2 d hd
  rw [z] at this
  cases this
theorem vals_get : ∀ {vs : List V} {us : List Value} {i : Nat} {u : Value}, Vals vs us → us[i]? = some u → ∃ v, vs[i]? = some v ∧ RelV v u
  | _, _, i, _, .nil, e => by simp at e
  | _, _, 0, _, .cons a t, e => by simp at e; subst e; exact ⟨_, rfl, a⟩
  | _, _, i + 1, _, .cons a t, e => by
    obtain ⟨v, h1, h2⟩ := vals_get (i := i) t (by simpa using e)
    exact ⟨v, by simpa using h1, h2⟩
section
variable {X : Cx} {k : Nat}
theorem min_got {F : Hp} {h0 h' : Heap} {its : List Value} {vs : List V} {ds : List PyData} {i : Nat} {u : Value} {m : PyData} {as bs : List Addr} (rv : Vals vs its) (rp : RpAll X.K F vs ds) (rd : ReadsAll h0 its ds as)
    (hk : ∀ b o, h0.get? b = some o → h'.get? b = some o) (hu : its[i]? = some u) (r : Reads h' u m bs) : ∃ v, RelV v u ∧ Rp X.K F v m := by
  obtain ⟨v, h1, h2⟩ := vals_get rv hu
  obtain ⟨d, h3, h4⟩ := rp.getV h1
  obtain ⟨cs, h5, _, _, _⟩ := PySem.W.readsAll_at rd i u hu
  have e1 : ds.getD i .none = d := by rw [List.getD_eq_getElem?_getD, h3]; rfl
  rw [e1] at h5
  obtain ⟨e2, _⟩ := PyProof.Rows.reads_det (fun b o q _ => hk b o q) h5 r
  exact ⟨v, h2, e2 ▸ h4⟩
theorem c_minA (hr : RoomG k X.A) (hc : X.calm = true) : CallR X (.builtin "min") (rCall X.K minAD) := by
  intro pins s σ H xs us Q I r ⟨F, ds, rv, sm, kx, hf, g⟩
  unfold minAD at hf
  split at hf
  case h_2 => cases hf
  rename_i d ds
  split at hf
  case isFalse => cases hf
  rename_i hcan
  cases hf
  obtain ⟨h1, h2⟩ := can_cmp hcan
  obtain ⟨v, rfl, rk⟩ := rk1 kx
  obtain ⟨u, rfl, ru⟩ := vals1 r
  obtain ⟨a, vs, rfl, q, rp⟩ := rk.lst sm
  cases ru
  obtain ⟨its, rv, hl, hz⟩ := I.list q
  obtain ⟨as, rd, _⟩ := rp_readsAll I (rp.mono sm) rv
  have hu := hr.u65
  refine PySem.W.min_list_data (I.ok.hd hc) hl.isList (by simpa using rd) h1 (by omega) fun i u h' tk bs hi rr hk => ?_
  obtain ⟨w, w1, w2⟩ := min_got (X := X) rv rp rd hk (by simpa using hi) rr
  exact ⟨w, H, I.kept hk, w1, g.flat sm w2⟩
/-- min(x, default=None) -/
def eMinN (m : ME) : ME := fun env => (m env).bind fun p => (p.2.view p.1).bind fun d => match d with
  | .list [] => some (p.1, .fz .none)
  | .list (d :: ds) => if canCmp (d :: ds) = true then some (p.1, .fz (PySem.W.minD d ds)) else none
  | _ => none
def rMinN (K : PySem.W.Frag) : List V → List V → Hp → VK → Prop := fun vs zs H Q => ∃ F d r, Same F H ∧ (∃ v, vs = [v] ∧ Rk K F H v d) ∧ zs = [.non] ∧ (match d with
  | .list [] => r = RV.fz .none
  | .list (d :: ds) => canCmp (d :: ds) = true ∧ r = .fz (PySem.W.minD d ds)
  | _ => False) ∧ Gives K F H Q r
theorem c_minN (hr : RoomG k X.A) (hc : X.calm = true) : CallRK X (.builtin "min") [Str.ofString "default"] (rMinN X.K) := by
  intro pins s σ H vs zs us ws Q I r rz h
  obtain ⟨F, d, rr, sm, ⟨v, rfl, rk⟩, rfl, hf, g⟩ := h
  obtain ⟨u, rfl, ru⟩ := vals1 r
  obtain ⟨w1, rfl, e1⟩ := vals1 rz
  obtain rfl : w1 = Value.none := e1
  have hu := hr.u65
  show wpAny (model X.prog X.w) X.A (call (.builtin "min") [u] [(Str.ofString "default", Value.none)]) (EP X pins σ Q) X.xe s
  split at hf
  · subst hf
    obtain ⟨a, vs, rfl, q, rp⟩ := rk.lst sm
    cases ru
    obtain ⟨its, rv, hl, hz⟩ := I.list q
    obtain ⟨as, rd, _⟩ := rp_readsAll I (rp.mono sm) rv
    refine PySem.W.min_list_default (I.ok.hd hc) hl.isList (by simpa using rd) ⟨fun _ h => (by cases h), fun _ h => (by cases h)⟩ (show X.A.units + 1 + PyData.depthAll [] < cLine by rw [show PyData.depthAll [] = 0 from rfl]; omega) (fun _ h' tk hk => ?_) fun y ys i u h' tk bs e _ _ _ => (by cases e)
    exact ⟨.non, H, I.kept hk, rfl, g.flat sm .non⟩
  · rename_i d ds
    obtain ⟨hcan, rfl⟩ := hf
    obtain ⟨h1, h2⟩ := can_cmp hcan
    obtain ⟨a, vs, rfl, q, rp⟩ := rk.lst sm
    cases ru
    obtain ⟨its, rv, hl, hz⟩ := I.list q
    obtain ⟨as, rd, _⟩ := rp_readsAll I (rp.mono sm) rv
    refine PySem.W.min_list_default (I.ok.hd hc) hl.isList (by simpa using rd) h1 (by omega) (fun z => (by cases z)) fun y ys i u h' tk bs e hi rr hk => ?_
    cases e
    obtain ⟨w, w1, w2⟩ := min_got (X := X) rv rp rd hk (by simpa using hi) rr
    exact ⟨w, H, I.kept hk, w1, g.flat sm w2⟩
  · exact hf.elim
variable {x : Str} {p pos kpos : Pos} {e : Expr} {m : ME}
theorem re_minN (hr : RoomG k X.A) (hc : X.calm = true) (hg : Gl X "min") (hm : X.mg "min" = none) (ha : PE X e (tE X.K m))
    (he : backTo pos (starEach [e] X.env) = (false, eval e X.env) :: backTo pos (starEach [] X.env) := by rfl) (hpl : (backTo pos (starEach [e] X.env)).any (·.1) = false := by rfl)
    (h1 : starEach [e] X.env = (false, eval e X.env) :: starEach [] X.env := by rfl) {cp : Pos} {cn}
    (hall : (backToKw pos (keywordEach [⟨some "default", .Constant .none cn cp, kpos⟩] X.env)).all (·.1.isSome) = true := by rfl) (hnone : (backToKw pos (keywordEach [⟨some "default", .Constant .none cn cp, kpos⟩] X.env)).any (·.1.isNone) = false := by rfl) (hks : (backToKw pos (keywordEach [⟨some "default", .Constant .none cn cp, kpos⟩] X.env)).filterMap (·.1) = [Str.ofString "default"] := by rfl) :
    PE X (.Call (.Name "min" p) [e] [⟨some "default", .Constant .none cn cp, kpos⟩] pos) (tE X.K (eMinN m)) := by
  refine pe_imp (pe_callBK (c_minN hr hc) hg hm rfl (pa_cons ha pa_nil h1) (pk_cons pe_non pk_nil) (by decide) (by decide) he hpl hall hnone hks) fun σ H Q ⟨F, env, A, env', r, em, g⟩ => ?_
  obtain ⟨⟨env1, r1⟩, e1, em⟩ := bind_some em
  obtain ⟨d, e2, em⟩ := bind_some em
  refine ⟨F, env, A, env1, r1, e1, fun v F1 H1 A1 f1 o1 n1 => ?_⟩
  have rk := RV.ok.rk o1 A1 e2
  split at em
  · cases em
    exact ⟨F1, _, _, A1.same, ⟨v, rfl, rk⟩, rfl, rfl, gives_to A1 f1 g⟩
  · split at em
    case isFalse => cases em
    rename_i hcan
    cases em
    exact ⟨F1, _, _, A1.same, ⟨v, rfl, rk⟩, rfl, ⟨hcan, rfl⟩, gives_to A1 f1 g⟩
  · cases em
/-! data less than data -/
def ltXD : PyData → PyData → Option RV := fun d e => if PySem.W.alike d e = true ∧ isNone d = false ∧ d.depth ≤ 50 then fzB (PySem.W.dataLt d e) else none
end
theorem bff : (false == false) = true := rfl
theorem btt : (true == true) = true := rfl
theorem bft : (false == true) = false := rfl
theorem btf : (true == false) = false := rfl
/-! comprehensions that leave some out -/
theorem wlc_fm {β : Type} {xs : List β} {g0 : β → PyData} (f : β → Option PyData) {g : MG} {t : MT} {m : ME} {vs : List Nat} {e : MEnv} {Q : MEnv × List PyData → Prop} (hl : xs.length ≤ lineN)
    (hs : ∀ b, b ∈ xs → ∀ acc, WG g (g0 b) e (kLcT vs t m (fun e1 a1 => e1 = e ∧ a1 = acc ++ (f b).toList) acc)) (hn : Q (e, xs.filterMap f)) : Wp (lcLoop g t m vs (xs.map g0) e []) Q := by
  refine wlc (fun i e1 acc => e1 = e ∧ acc = (xs.take i).filterMap f) (by rw [List.length_map]; exact hl) ⟨rfl, by simp⟩ (fun i d hd e1 acc hj _ => ?_) fun e1 acc hj _ => ?_
  · obtain ⟨h1, h2⟩ := hj
    subst h1 h2
    rw [List.getElem?_map] at hd
    obtain ⟨b, hb, rfl⟩ := Option.map_eq_some_iff.mp hd
    have h := hs b (List.mem_of_getElem? hb) ((xs.take i).filterMap f)
    have e0 : ∀ a1, a1 = (xs.take i).filterMap f ++ (f b).toList → a1 = (xs.take (i + 1)).filterMap f := fun a1 h => by
      rw [h, List.take_add_one, hb, Option.toList_some, List.filterMap_append]
      cases hf : f b <;> simp [hf]
    refine Wp.imp h fun e1 h1 => Wp.imp h1 fun p h1 => ?_
    unfold kLcB at h1 ⊢
    split
    · rename_i hp
      rw [if_pos hp] at h1
      exact Wp.imp h1 fun q h1 => Wp.imp h1 fun s h1 => ⟨h1.1, e0 _ h1.2⟩
    · rename_i hp
      rw [if_neg hp] at h1
      exact ⟨h1.1, e0 _ h1.2⟩
  · obtain ⟨h1, h2⟩ := hj
    subst h1 h2
    rw [List.length_map, List.take_length]
    exact hn
end L3

/-! L4L: enumerate of a list or of a tuple. -/
namespace L3E
open PySem PySem.Spec PyProof.Rows L2
open Sem (wp)
open AutoSeq1 (wpAny_loadPart')
/-- enumerate made of a tuple -/
theorem meets_enumT (tp : Addr) (vs : Array Value) (ep : Nat) (di : Option Addr) (slt : Array (Option Value)) :
    Meets (Builtin.«enumerate.__new__» ⟨[.type "enumerate", .ref tp], []⟩) (fun _ R s => s.heap.get? tp = some { cls := .type "tuple", dict := di, data := .seq vs ep, slots := slt } ∧
      R (.ok (.ret (.ref (s.heap.push { cls := .type "tuple_iterator", data := .fields #[.ref tp, .int 0 0] }).objs.size)))
        { s with heap := (s.heap.push { cls := .type "tuple_iterator", data := .fields #[.ref tp, .int 0 0] }).push { cls := .type "enumerate", data := .fields #[.none, .bool false, .ref s.heap.objs.size, rawInt 0, .none, .none] } }) :=
  .of_wp fun prog w A R s q => by
    obtain ⟨hp, gs, dr, tks, op⟩ := s; obtain ⟨ht, q⟩ := q
    have hsb := sub_enumerate
    have isT : Heap.IsTuple (Shared.heap ⟨hp, gs, dr, tks, op⟩) tp vs := ⟨_, ht, rfl, ep, rfl⟩
    wp_walk using wpAny_loadPart' ht
    refine wpAny_stack_any fun stk => wpAny_pure ?_
    split
    · rename_i c _ _ _ _ _
      cases (c == Value.type "enumerate") <;>
        (wp_walk using wpAny_loadPart' ht, wpAny_pyIter_tuple isT; exact ⟨_, rfl, q⟩)
    · wp_walk using wpAny_loadPart' ht, wpAny_pyIter_tuple isT
      exact ⟨_, rfl, q⟩
section
variable {prog : Program} {w : World} {A : Around} {E : Value → Shared → Prop} {s : Shared}
theorem call_enumT {tp : Addr} {vs : Array Value} {Q : Value → Shared → Prop} (isT : s.heap.IsTuple tp vs)
    (k : ∀ h', IsEnum h' (s.heap.objs.size + 1) s.heap.objs.size 0 .none → h'.IsTupleIter s.heap.objs.size tp 0 → (∀ b o, s.heap.get? b = some o → h'.get? b = some o) → Q (.ref (s.heap.objs.size + 1)) { s with heap := h' }) :
    wpAny (model prog w) A (call (.type "enumerate") [.ref tp]) Q E s := by
  obtain ⟨⟨cl, di, dat, slt⟩, ht, hcl, ep, hdat⟩ := isT
  obtain rfl : cl = .type "tuple" := hcl
  obtain rfl : dat = .seq vs ep := hdat
  refine callType_new F.called_enumerate (by decide) (F.typeCall_enumerate_1 _) (F.newCall_enumerate_1 _) (fun ob => F.args_object_init_2 ob _) F.entry_enumerate_new (meets_enumT tp vs ep di slt) ⟨ht, ?_⟩
  have z1 : (s.heap.push { cls := .type "tuple_iterator", data := .fields #[.ref tp, .int 0 0] }).objs.size = s.heap.objs.size + 1 := Heap.size_push ..
  show _ ∧ _
  rw [z1]
  have isE : IsEnum ((s.heap.push { cls := .type "tuple_iterator", data := .fields #[.ref tp, .int 0 0] }).push { cls := .type "enumerate", data := .fields #[.none, .bool false, .ref s.heap.objs.size, rawInt 0, .none, .none] }) (s.heap.objs.size + 1) s.heap.objs.size 0 .none := by
    have z2 := Heap.get?_push_size (s.heap.push { cls := .type "tuple_iterator", data := .fields #[.ref tp, .int 0 0] }) (o := { cls := .type "enumerate", data := .fields #[.none, .bool false, .ref s.heap.objs.size, rawInt 0, .none, .none] }) rfl
    rw [z1] at z2; exact z2
  exact ⟨⟨_, isE, rfl⟩, k _ isE ⟨_, Heap.get?_push_of_some _ (Heap.get?_push_size _ rfl), rfl, rfl⟩ fun b o x => Heap.get?_push_of_some _ (Heap.get?_push_of_some _ x)⟩
end
/-- the tuple at a at each turn, each item in a new pair -/
def ItU (K : PySem.W.Frag) (a : Addr) : It :=
  ⟨fun i H => ∃ (xs : List V) (x : V), SqT K H a xs ∧ xs[i]? = some x, fun i H v H' => ∃ T x, v = .ref T ∧ H T = none ∧ H' = upd H T (.tup [.int (i : Nat), x]) ∧ ∀ xs, SqT K H a xs → xs[i]? = some x, fun i H => ∃ xs : List V, SqT K H a xs ∧ xs.length ≤ i⟩
theorem turn_enumT {P : Program} {w : World} {K : PySem.W.Frag} {elts : List Expr} {kk : Nat} {tpos : Pos} (a e it : Addr) :
    Turn P w K (.Tuple elts kk tpos) (ItU K a) [e, it] e (fun i h => (∃ old, IsEnum h e it ((i : Nat) : Int) old) ∧ h.IsTupleIter it a i ∧ e ≠ it ∧ a ≠ e ∧ a ≠ it) where
  mem := by simp
  obj := fun i h st b hb => by
    obtain ⟨⟨old, he⟩, ⟨o, ho, hc, hd⟩, _⟩ := st
    rcases (show b = e ∨ b = it by simpa using hb) with z | z
    · rw [z]; exact ⟨_, he, fun v q => nomatch q⟩
    · rw [z]; exact ⟨o, ho, fun v q => by rw [hd] at q; cases q⟩
  keep := fun i h h' st k => by
    obtain ⟨⟨old, he⟩, hi, hne⟩ := st
    exact ⟨⟨old, k e (by simp) _ he⟩, hi.at fun o q => k it (by simp) o q, hne⟩
  item := by
    intro X hP hw hK hc i pins s σ H E I hf st hg
    subst hP hw hK
    obtain ⟨⟨old, he⟩, hit, hne, hae, hai⟩ := st
    obtain ⟨xs, x, hq, hx⟩ := hg
    obtain ⟨its, rv, tp, hz⟩ := I.tuple hq
    obtain ⟨u, hu, ru⟩ := rv.get hx
    have hel : e < s.heap.objs.size := Heap.lt_size he
    have hil : it < s.heap.objs.size := by obtain ⟨_, q, _⟩ := hit; exact Heap.lt_size q
    have hil2 : i < its.toArray.size := by
      have := (List.getElem?_eq_some_iff.mp hu).1
      simpa using this
    refine wpAny_pyNext_enum_itemD (fp := [it, a]) (P := fun j v => its.toArray[j]? = some v) (St := fun j h => h.IsTupleIter it a j ∧ h.IsTuple a its.toArray) (Draws.tuple (A := X.A.in1) (I.ok.hd hc) it a hai its.toArray) he ⟨hit, tp⟩ hil2 hne (by simp [hne, Ne.symm hae]) fun u2 h' tk hP ho hst hT hsz hk => ?_
    have e2 : u2 = u := by
      have hP' : its.toArray[i]? = some u2 := hP
      rw [List.getElem?_toArray, hu] at hP'
      exact (Option.some.inj hP').symm
    subst e2
    refine ⟨_, rfl, wpAny_letOwnedTupleGo_enum (s := { s with heap := h', toks := tk + 1 }) ho fun h'' he' sb => ?_⟩
    have hT2 : h''.get? s.heap.objs.size = some { cls := .type "tuple", data := .seq #[.int i tk, u2] } := (sb.2 _ (Nat.ne_of_gt hel)).trans hT
    have new : ObjOk X.prog X.w (upd H s.heap.objs.size (.tup [.int (i : Nat), x])) h'' s.heap.objs.size (.tup [.int (i : Nat), x]) :=
      ⟨(show 2 ≤ sizeLine by decide), [.int i tk, u2], .cons ⟨_, rfl⟩ (.cons ru .nil), ⟨_, hT2, rfl, _, rfl⟩⟩
    have I1 : Inv X pins σ (upd H s.heap.objs.size (.tup [.int (i : Nat), x])) { s with heap := h'', toks := tk + 1 } :=
      I.turnedNew (t' := tk + 1) (ch := [e, it]) (fun b ob hb q => (sb.2 b (fun z => hb (by simp [z]))).trans (hk b ob (fun z => hb (by simp [z])) (fun z => hb (by simp [z])) q)) hf (Nat.le_refl _) new
    refine ⟨.ref s.heap.objs.size, _, I1, rfl, ⟨_, x, rfl, I.hok.fresh (Nat.le_refl _), rfl, fun ys hy => by rw [I.tuple_inj hy hq]; exact hx⟩, ⟨⟨u2, ?_⟩, hst.1.at fun o q => (sb.2 it (Ne.symm hne)).trans q, hne, hae, hai⟩, fun b hb => ?_⟩
    · have e1 : ((i + 1 : Nat) : Int) = (i : Int) + 1 := by omega
      rw [e1]
      exact he'
    · have hb' : b < s.heap.objs.size := by
        rcases (show b = e ∨ b = it by simpa using hb) with z | z
        · rw [z]; exact hel
        · rw [z]; exact hil
      rw [upd_ne (Nat.ne_of_lt hb')]
      exact (hf b hb).1
  done := by
    intro X hP hw hK hc i pins s σ H E I hf st hg
    subst hP hw hK
    obtain ⟨⟨old, he⟩, hit, hne, hae, hai⟩ := st
    obtain ⟨xs, hq, hx⟩ := hg
    obtain ⟨its, rv, tp, hz⟩ := I.tuple hq
    obtain ⟨f0, f1, f2, f3, f4, f5⟩ := hf it (by simp)
    have hl := rv.length
    refine wpAny_pyNext_enum_endD (n := i) (P := fun j v => its.toArray[j]? = some v) (St := fun j h => j = i ∧ h.IsTupleIter it a i ∧ h.IsTuple a its.toArray) (fp := [it, a]) ?_ he ⟨rfl, hit, tp⟩ fun h' eb => ⟨rfl, I.turned (t' := s.toks) (fun b o hb q => eb b o hb q) f0 f1 f3 f4 f5⟩
    exact {
      live := fun _ _ z => let ⟨o, ho, _⟩ := z.2.1; ⟨o, ho⟩
      frame := fun _ _ _ z hk => ⟨z.1, z.2.1.at fun o q => hk it (by simp) o q, z.2.2.at fun o q => hk a (by simp) o q⟩
      item := fun j s Q E hj z hQ => by have := z.1; omega
      done := fun s Q E z hE => wpAny_nextOf_tuple_end (I.ok.hd hc) z.2.1 z.2.2 (by simp; omega) hE }
  self := fun A i s Q E st h => let ⟨⟨_, he⟩, _⟩ := st; wpAny_pyIter_enum he h
end L3E
namespace L3
open PySem PySem.Spec PyProof.Rows L2
/-- the things with their places -/
def enumD : Nat → List PyData → List PyData
  | _, [] => []
  | i, d :: ds => .tuple [.int (i : Nat), d] :: enumD (i + 1) ds
theorem enumD_length : ∀ (i : Nat) (ds : List PyData), (enumD i ds).length = ds.length
  | _, [] => rfl
  | i, d :: ds => congrArg (· + 1) (enumD_length (i + 1) ds)
theorem enumD_get : ∀ {i j : Nat} {ds : List PyData} {d : PyData}, (enumD i ds)[j]? = some d → ∃ x, ds[j]? = some x ∧ d = .tuple [.int ((i + j : Nat) : Int), x]
  | i, j, [], d, h => by simp [enumD] at h
  | i, 0, x :: ds, d, h => by
    have h : some (PyData.tuple [.int (i : Nat), x]) = some d := h
    cases h
    exact ⟨x, rfl, rfl⟩
  | i, j + 1, x :: ds, d, h => by
    obtain ⟨y, h1, h2⟩ := enumD_get (i := i + 1) (j := j) (ds := ds) h
    exact ⟨y, h1, by rw [h2, show i + 1 + j = i + (j + 1) by omega]⟩
def iEnumA (m : ME) : MI := fun env => (m env).bind fun p => (p.2.fix p.1).bind fun q => match q.2 with
  | .list ds => some (q.1, enumD 0 ds)
  | .tuple ds => some (q.1, enumD 0 ds)
  | _ => none
theorem enum_new {K : PySem.W.Frag} {F G H : Hp} {xs : List V} {ds : List PyData} {i : Nat} {T : Addr} {x : V} {d : PyData} (r : RpAll K F xs ds) (s : Same F G) (s' : Same G H) (hT : H T = none) (hx : xs[i]? = some x) (e : (enumD 0 ds)[i]? = some d) :
    ∃ G', Same G G' ∧ Same H (upd H T (.tup [.int (i : Nat), x])) ∧ Same G' (upd H T (.tup [.int (i : Nat), x])) ∧ (∀ a o, G' a = some o → G a = some o ∨ Lo H a) ∧ Rp K G' (.ref T) d := by
  obtain ⟨y, e1, rfl⟩ := enumD_get e
  rw [Nat.zero_add]
  have gT : G T = none := s'.free hT
  have sG : Same G (upd G T (.tup [.int (i : Nat), x])) := fun b o q => by rw [upd_ne (ne_of_none q gT)]; exact q
  refine ⟨upd G T (.tup [.int (i : Nat), x]), sG, fun b o q => by rw [upd_ne (ne_of_none q hT)]; exact q, fun b o q => ?_, fun b o q => ?_, ?_⟩
  · by_cases hb : b = T
    · subst hb; rw [upd_same] at q ⊢; exact q
    · rw [upd_ne hb] at q ⊢; exact s' b o q
  · by_cases hb : b = T
    · subst hb; exact .inr (Lo.none hT)
    · rw [upd_ne hb] at q; exact .inl q
  · exact .tup upd_same (.cons (.int _) (.cons ((rpAll_get r hx e1).mono (s.trans sG)) .nil))
theorem it_enumL {K : PySem.W.Frag} {F : Hp} {a : Addr} {xs : List V} {ds : List PyData} (h : SqL K F a xs) (r : RpAll K F xs ds) : ItOk K (Ite K a) F (enumD 0 ds) where
  stop := fun H s => ⟨xs, sql_mono s h, by rw [enumD_length, r.length]; omega⟩
  go := fun i H s hi => by
    rw [enumD_length] at hi
    have h1 : i < xs.length := by rw [r.length]; exact hi
    exact ⟨xs, xs[i], sql_mono s h, List.getElem?_eq_getElem h1⟩
  yld := fun i H G v H' d s s' q e => by
    obtain ⟨T, x, rfl, hT, rfl, hx⟩ := q
    exact enum_new r s s' hT (hx xs (sql_mono (s.trans s') h)) e
theorem it_enumT {K : PySem.W.Frag} {F : Hp} {a : Addr} {xs : List V} {ds : List PyData} (h : SqT K F a xs) (r : RpAll K F xs ds) : ItOk K (L3E.ItU K a) F (enumD 0 ds) where
  stop := fun H s => ⟨xs, sqt_mono s h, by rw [enumD_length, r.length]; omega⟩
  go := fun i H s hi => by
    rw [enumD_length] at hi
    have h1 : i < xs.length := by rw [r.length]; exact hi
    exact ⟨xs, xs[i], sqt_mono s h, List.getElem?_eq_getElem h1⟩
  yld := fun i H G v H' d s s' q e => by
    obtain ⟨T, x, rfl, hT, rfl, hx⟩ := q
    exact enum_new r s s' hT (hx xs (sqt_mono (s.trans s') h)) e
section
variable {X : Cx} {m : ME}
/-- an iterator over a list or over a tuple -/
def iEnumB (K : PySem.W.Frag) (ta : TA) : TI := fun σ H R => ta σ H fun vs H1 => ∃ a xs, vs = [.ref a] ∧ ((SqL K H1 a xs ∧ R (Ite K a) H1) ∨ (SqT K H1 a xs ∧ R (L3E.ItU K a) H1))
theorem pi_enumB {e : Expr} {ta : TA} {p pos tpos : Pos} {elts : List Expr} {kk : Nat} (hg : Gl X "enumerate") (hm : X.mg "enumerate" = none) (ha : PA X [e] ta) (hs : starEach [e] X.env = [(false, eval e X.env)] := by rfl) :
    PI X (.Tuple elts kk tpos) (.Call (.Name "enumerate" p) [e] [] pos) (iEnumB X.K ta) := by
  refine ⟨fun pins s σ H R I h => ?_⟩
  refine Call_ (ld_blt I hg hm boot_enumerate (PyProof.Rows.callWith_type1 (thn (ha.run pos pins s σ H _ I h) fun us s1 ⟨vs, H1, I1, rr, q1⟩ => ?_) hs rfl))
  obtain ⟨a, xs, rfl, q⟩ := q1
  obtain ⟨u, rfl, ru⟩ := vals1 rr
  cases ru
  have fresh : ∀ b ∈ [s1.heap.objs.size + 1, s1.heap.objs.size], s1.heap.objs.size ≤ b := fun b hb => by
    rcases (show b = s1.heap.objs.size + 1 ∨ b = s1.heap.objs.size by simpa using hb) with z | z <;> omega
  rcases q with ⟨hq, q⟩ | ⟨hq, q⟩
  · obtain ⟨its, rv, pl, hz⟩ := I1.list hq
    refine call_enumerate_list pl.isList fun h' he hit hsz hk => wpAny_pyIter_enum he ?_
    have I2 : Inv X pins σ H1 { s1 with heap := h' } := I1.kept (t' := s1.toks) hk
    exact ⟨s1.heap.objs.size + 1, [s1.heap.objs.size + 1, s1.heap.objs.size], _, _, H1, rfl, I2, turn_enum a (s1.heap.objs.size + 1) s1.heap.objs.size, ⟨⟨.none, he⟩, hit, Nat.succ_ne_self _⟩, fun b hb => I1.fpOk (fresh b hb) (I1.hok.fresh (fresh b hb)), q⟩
  · obtain ⟨its, rv, pl, hz⟩ := I1.tuple hq
    have hlt : a < s1.heap.objs.size := by obtain ⟨o, e, _⟩ := pl; exact Heap.lt_size e
    refine L3E.call_enumT pl fun h' he hit hk => wpAny_pyIter_enum he ?_
    have I2 : Inv X pins σ H1 { s1 with heap := h' } := I1.kept (t' := s1.toks) hk
    exact ⟨s1.heap.objs.size + 1, [s1.heap.objs.size + 1, s1.heap.objs.size], _, _, H1, rfl, I2, L3E.turn_enumT a (s1.heap.objs.size + 1) s1.heap.objs.size, ⟨⟨.none, he⟩, hit, Nat.succ_ne_self _, Nat.ne_of_lt (Nat.lt_succ_of_lt hlt), Nat.ne_of_lt hlt⟩, fun b hb => I1.fpOk (fresh b hb) (I1.hok.fresh (fresh b hb)), q⟩
theorem ri_enum {e : Expr} {p pos tpos : Pos} {elts : List Expr} {kk : Nat} (hg : Gl X "enumerate") (hm : X.mg "enumerate" = none) (ha : PE X e (tE X.K m))
    (hs : starEach [e] X.env = [(false, eval e X.env)] := by rfl) (hs2 : starEach [e] X.env = (false, eval e X.env) :: starEach [] X.env := by rfl) :
    PI X (.Tuple elts kk tpos) (.Call (.Name "enumerate" p) [e] [] pos) (tIt X.K (iEnumA m)) := by
  refine pi_imp (pi_enumB hg hm (pa_cons ha pa_nil hs2) hs) fun σ H R ⟨F, env, A, env', ds, em, k⟩ => ?_
  obtain ⟨⟨env1, r1⟩, e1, em⟩ := bind_some em
  obtain ⟨⟨env2, d⟩, e2, em⟩ := bind_some em
  refine ⟨F, env, A, env1, r1, e1, fun v F1 H1 A1 f1 o1 n1 => ?_⟩
  have hfx : fixAll env1 [r1] = some (env2, [d]) := by
    unfold fixAll
    rw [e2]
    rfl
  obtain ⟨F2, A2, f2, r2, s2⟩ := fix_all (vs := [v]) (rs := [r1]) A1 f1 ⟨o1, trivial, fun _ => by simp [ownVs]⟩ (fun u hu => by
    cases r1 with
    | own d' =>
      have : u = v := by simpa [ownVs] using hu
      rw [this]
      exact n1
    | _ => simp [ownVs] at hu) hfx
  cases r2 with
  | cons ra r2 =>
  split at em
  · rename_i ds e3
    cases em
    cases (show d = _ from e3)
    cases ra with
    | lst qa ra => exact ⟨_, _, rfl, .inl ⟨sql_mono A2.same qa, k _ F2 H1 A2 f2 (it_enumL qa ra)⟩⟩
  · rename_i ds e3
    cases em
    cases (show d = _ from e3)
    cases ra with
    | tup qa ra => exact ⟨_, _, rfl, .inr ⟨SqT.of (A2.same _ _ qa), k _ F2 H1 A2 f2 (it_enumT (SqT.of qa) ra)⟩⟩
  · cases em
/-! steps -/
def kEnumB (P : MEnv → List PyData → Prop) (e : MEnv) : PyData → Prop
  | .list ds => P e (enumD 0 ds)
  | .tuple ds => P e (enumD 0 ds)
  | _ => False
def kEnum (P : MEnv → List PyData → Prop) (e : MEnv) (r : RV) : Prop := WF r e (kEnumB P)
variable {e : MEnv} {r : RV} {ds : List PyData} {Pi : MEnv → List PyData → Prop}
theorem wi_enum : WI (iEnumA m) e Pi ↔ WE m e (kEnum Pi) := by
  simp only [WI, WE, WF, iEnumA, kEnum, wp_bind]
  refine ⟨fun h => h.imp fun p h => h.imp fun q h => ?_, fun h => h.imp fun p h => h.imp fun q h => ?_⟩
  · obtain ⟨q1, q2⟩ := q
    cases q2 <;> first | exact (wp_some.mp h :) | exact (wp_none.mp h).elim
  · obtain ⟨q1, q2⟩ := q
    cases q2 <;> first | exact wp_some.mpr h | exact h.elim
theorem kEnum_eq : kEnum Pi e r ↔ WF r e (kEnumB Pi) := Iff.rfl
theorem kEnumB_l : kEnumB Pi e (.list ds) ↔ Pi e (enumD 0 ds) := Iff.rfl
theorem kEnumB_t : kEnumB Pi e (.tuple ds) ↔ Pi e (enumD 0 ds) := Iff.rfl
end
/-! ### a def that calls itself -/
theorem fnG_none {P : Program} {w : World} {K : PySem.W.Frag} {mg : Str → Option Value} {base : Heap} {CX : CXT} {k n : Nat} {f : Addr} {fd : FuncData} {ps : List Str} : FnOkG P w K mg base CX k f fd ps (spOf n (fun _ => none) K) := by
  have no : ∀ {vs : List V} {H : Hp} {Q : VK} {E : XK}, spOf n (fun _ => none) K vs H Q E → False := fun h => by
    obtain ⟨_, _, _, _, _, _, _, hC, _⟩ := h
    cases hC
  exact ⟨fun vs H Q E h => (no h).elim, fun A o s H as us vs Q E _ _ _ _ h => (no h).elim⟩
theorem rec_len {n l : Nat} {b : CF → MS} {r : Nat → CF} (h0 : ∀ as, r 0 as = none) (hs : ∀ k, r (k + 1) = runF n l (b (r k))) : ∀ (k : Nat) (as : List SV) (q : List SV × RV), r k as = some q → as.length = n
  | 0, as, q, h => by rw [h0] at h; cases h
  | k + 1, as, q, h => by rw [hs] at h; exact runF_len as q h
/-! steps: min(x, default=None) -/
section
variable {m : ME} {e : MEnv} {r : RV} {P : MEnv → RV → Prop} {d : PyData} {ds : List PyData}
def kMN2 (P : MEnv → RV → Prop) (e : MEnv) : PyData → Prop
  | .list [] => P e (.fz .none)
  | .list (d :: ds) => canCmp (d :: ds) = true ∧ P e (.fz (PySem.W.minD d ds))
  | _ => False
def kMN1 (P : MEnv → RV → Prop) (e : MEnv) (r : RV) : Prop := WV r e (kMN2 P e)
theorem we_minN : WE (eMinN m) e P ↔ WE m e (kMN1 P) := by
  simp only [WE, WV, eMinN, kMN1, wp_bind]
  refine ⟨fun h => h.imp fun p h => h.imp fun d h => ?_, fun h => h.imp fun p h => Wp.imp h fun d h => ?_⟩
  · split at h
    · exact (wp_some.mp h :)
    · exact ⟨(wp_guard.mp h).1, (wp_some.mp (wp_guard.mp h).2 :)⟩
    · exact (wp_none.mp h).elim
  · unfold kMN2 at h
    split at h
    · exact wp_some.mpr h
    · exact wp_guard.mpr ⟨h.1, wp_some.mpr h.2⟩
    · exact h.elim
theorem kMN1_eq : kMN1 P e r ↔ WV r e (kMN2 P e) := Iff.rfl
theorem kMN2_0 : kMN2 P e (.list []) ↔ P e (.fz .none) := Iff.rfl
theorem kMN2_s : kMN2 P e (.list (d :: ds)) ↔ canCmp (d :: ds) = true ∧ P e (.fz (PySem.W.minD d ds)) := Iff.rfl
end
end L3

/-! L4M: (a, b) = a list; bool(x). -/
namespace L3
open PySem PySem.Spec PyProof.Rows L2
def gUnpL (n : Nat) (gs : MGs) : MG := fun d env => match d with
  | .list ds => if ds.length = n then gs ds env else none
  | _ => none
def sAsgF (g : MG) (m : ME) : MS := fun env => (m env).bind fun p => (p.2.fix p.1).bind fun q => (g q.2 q.1).bind fun e => some (.nx e)
section
variable {X : Cx} {e : Expr} {me : ME} {pos : Pos}
theorem rg_unl {es : List Expr} {k : Nat} {is : List Nat} {gs : MGs} {n : Nat} {pos : Pos} (hc : X.calm = true) (h : PGs X es (tGs X.K is gs)) (hn : (assignEach es X.env).length = n := by rfl) (hst : (assignEach es X.env).findIdx? (·.1) = none := by rfl) :
    PG X (.Tuple es k pos) (tG X.K is (gUnpL n gs)) := by
  refine pg_imp (pg_unl hc h hn hst) fun v σ H Q ⟨F, env, d, A, r, env', em, kk⟩ => ?_
  unfold gUnpL at em
  split at em
  · rename_i ds
    split at em
    · rename_i hl
      cases r with
      | lst q r => exact ⟨_, _, rfl, sql_mono A.same q, by rw [r.length]; exact hl, F, env, ds, A, r, env', em, kk⟩
    · cases em
  · cases em
theorem rs_asgF {tg : Expr} {is : List Nat} {g : MG} (he : PE X e (tE X.K me)) (hg : PG X tg (tG X.K is g)) (hs : swapsWithSole [tg] e pos.line X.env = pure false := by rfl) (hw : swappedStores [tg] e X.env = pure none := by rfl)
    (h1 : (assignEach [tg] X.env).map (·.2) = [assign tg X.env] := by rfl) : PS X (.Assign [tg] e pos) (tS X.K (sAsgF g me)) :=
  ps_imp (ps_asg he hg hs hw h1) fun D σ H ⟨F, env, A, o, em, k⟩ => by
    obtain ⟨⟨env1, r⟩, e1, em⟩ := bind_some em
    obtain ⟨⟨env2, d⟩, e2, em⟩ := bind_some em
    obtain ⟨e3, e4, em⟩ := bind_some em
    cases em
    refine ⟨F, env, A, env1, r, e1, fun v F1 H1 A1 f1 o1 n1 => ?_⟩
    obtain ⟨F2, A2, f2, rp, _⟩ := fix_one A1 f1 o1 n1 e2
    exact ⟨F2, env2, d, A2, rp, e3, e4, fun σ2 F3 H3 A3 f3 _ => k σ2 F3 H3 A3 (f2.trans f3)⟩
/-! bool(x) -/
def boolD : List PyData → Option RV
  | [.int i] => fzB (i != 0)
  | [.bool b] => fzB b
  | _ => none
theorem c_bool : CallR X (.type "bool") (rCall X.K boolD) := by
  intro pins s σ H xs us Q I r ⟨F, ds, rv, sm, kx, hf, g⟩
  unfold boolD at hf
  split at hf
  · rename_i i
    cases hf
    obtain ⟨v, rfl, rk⟩ := rk1 kx
    have := rk.int
    subst this
    exact call_bool1 pins s σ H _ us Q I r (.inl ⟨i, rfl, g.flat sm (.bl _)⟩)
  · rename_i b
    cases hf
    obtain ⟨v, rfl, rk⟩ := rk1 kx
    have := rk.bl
    subst this
    exact call_bool1 pins s σ H _ us Q I r (.inr ⟨b, rfl, g.flat sm (.bl _)⟩)
  · cases hf
end
/-! steps -/
section
variable {e : MEnv} {r : RV} {d : PyData} {ds : List PyData} {n : Nat} {gs : MGs} {g : MG} {m : ME} {P : Out → Prop} {Pg : MEnv → Prop} {i : Int} {b : Bool}
def kAsgG (g : MG) (P : Out → Prop) (e : MEnv) (d : PyData) : Prop := WG g d e (kAsgB P)
def kAsgF (g : MG) (P : Out → Prop) (e : MEnv) (r : RV) : Prop := WF r e (kAsgG g P)
theorem ws_asgF : WS (sAsgF g m) e P ↔ WE m e (kAsgF g P) := by
  simp only [WS, WE, WF, WG, sAsgF, kAsgF, kAsgG, wp_bind, wp_some]
  exact Iff.rfl
theorem kAsgF_eq : kAsgF g P e r ↔ WF r e (kAsgG g P) := Iff.rfl
theorem kAsgG_eq : kAsgG g P e d ↔ WG g d e (kAsgB P) := Iff.rfl
theorem wg_unl : WG (gUnpL n gs) (.list ds) e Pg ↔ ds.length = n ∧ WGs gs ds e Pg := wp_guard
theorem boolD_i : boolD [.int i] = some (.fz (.bool (i != 0))) := rfl
theorem boolD_b : boolD [.bool b] = some (.fz (.bool b)) := rfl
end
end L3

/-! L4N: a list of any things beside the empty one. -/
namespace L3
open PySem PySem.Spec PyProof.Rows L2
def neLD : PyData → PyData → Option RV
  | .list (_ :: _), .list [] => fzB true
  | d, e => neD d e
def eqLD : PyData → PyData → Option RV
  | .list (_ :: _), .list [] => fzB false
  | d, e => eqD d e
section
variable {X : Cx}
theorem two_lists {pins : List (Addr × Obj)} {σ : L2.St} {F H : Hp} {s : Shared} {v w : V} {u t : Value} {x : PyData} {xs : List PyData} (I : Inv X pins σ H s) (rx : RelV v u) (ry : RelV w t) (sm : Same F H) (kx : Rk X.K F H v (.list (x :: xs))) (ky : Rk X.K F H w (.list [])) :
    ∃ (a b : Addr) (i1 i2 : Array Value), u = .ref a ∧ t = .ref b ∧ s.heap.IsList a i1 ∧ s.heap.IsList b i2 ∧ (i1.size != i2.size) = true := by
  obtain ⟨a, vs, rfl, q, rp⟩ := kx.lst sm
  obtain ⟨b, ws, rfl, q2, rp2⟩ := ky.lst sm
  cases rx
  cases ry
  obtain ⟨its, rv, pl, _⟩ := I.list q
  obtain ⟨its2, rv2, pl2, _⟩ := I.list q2
  refine ⟨a, b, _, _, rfl, rfl, pl.isList, pl2.isList, ?_⟩
  have h1 := rv.length
  have h2 := rv2.length
  have h3 := rp.length
  have h4 := rp2.length
  simp only [List.length_cons, List.length_nil] at h3 h4
  simp only [List.size_toArray, bne_iff_ne, ne_eq]
  omega
theorem o_neL (hu : X.A.units + 64 < cLine) : OpR X (compareOp .NotEq) (rOp2 X.K neLD) := by
  intro pins s σ H x y v u Q I rx ry ⟨F, d, e, r, sm, kx, ky, hf, g⟩
  unfold neLD at hf
  split at hf
  · cases hf
    obtain ⟨a, b, i1, i2, rfl, rfl, h1, h2, h3⟩ := two_lists I rx ry sm kx ky
    exact SeqAt.RcNeAt.lists_lengths h1 h2 h3 (by omega) X.prog X.w _ _ ⟨.bl true, H, I, rfl, g.flat sm (.bl _)⟩
  · exact o_ne hu pins s σ H x y v u Q I rx ry ⟨F, _, _, r, sm, kx, ky, hf, g⟩
theorem o_eqL (hu : X.A.units + 64 < cLine) : OpR X (compareOp .Eq) (rOp2 X.K eqLD) := by
  intro pins s σ H x y v u Q I rx ry ⟨F, d, e, r, sm, kx, ky, hf, g⟩
  unfold eqLD at hf
  split at hf
  · cases hf
    obtain ⟨a, b, i1, i2, rfl, rfl, h1, h2, h3⟩ := two_lists I rx ry sm kx ky
    exact SeqAt.RcAt.lists_lengths h1 h2 h3 (by omega) X.prog X.w _ _ ⟨.bl false, H, I, rfl, g.flat sm (.bl _)⟩
  · exact o_eq hu pins s σ H x y v u Q I rx ry ⟨F, _, _, r, sm, kx, ky, hf, g⟩
end
theorem neLD_c {d : PyData} {ds : List PyData} : neLD (.list (d :: ds)) (.list []) = some (.fz (.bool true)) := rfl
theorem neLD_n : neLD (.list []) (.list []) = some (.fz (.bool false)) := by
  show neD (.list []) (.list []) = _
  rw [neD_sh (by rfl) (by rfl)]
  rfl
theorem eqLD_c {d : PyData} {ds : List PyData} : eqLD (.list (d :: ds)) (.list []) = some (.fz (.bool false)) := rfl
theorem eqLD_n : eqLD (.list []) (.list []) = some (.fz (.bool true)) := by
  show eqD (.list []) (.list []) = _
  rw [eqD_sh (by rfl) (by rfl)]
  rfl
end L3

/-! L4O: the first place of a text in a list. -/
namespace L3
open PySem PySem.Spec PyProof.Rows L2
def sIdx : List Str → Str → Option Nat
  | [], _ => none
  | y :: r, x => if y = x then some 0 else (sIdx r x).map (· + 1)
theorem sIdx_some : ∀ {ys : List Str} {x : Str} {j : Nat}, sIdx ys x = some j → ys[j]? = some x ∧ ∀ m z, m < j → ys[m]? = some z → z ≠ x
  | [], _, _, h => by cases h
  | y :: r, x, j, h => by
    unfold sIdx at h
    by_cases c : y = x
    · rw [if_pos c] at h
      cases h
      exact ⟨by rw [c]; rfl, fun m z hm _ => by omega⟩
    · rw [if_neg c] at h
      obtain ⟨i, hi, rfl⟩ := Option.map_eq_some_iff.mp h
      obtain ⟨h1, h2⟩ := sIdx_some hi
      refine ⟨by rw [List.getElem?_cons_succ]; exact h1, fun m z hm hz => ?_⟩
      cases m with
      | zero =>
        rw [List.getElem?_cons_zero] at hz
        cases hz
        exact c
      | succ m =>
        rw [List.getElem?_cons_succ] at hz
        exact h2 m z (by omega) hz
def listOfD : PyData → Option (List PyData)
  | .list ds => some ds
  | _ => none
theorem listOfD_some {d : PyData} {ds : List PyData} (h : listOfD d = some ds) : d = .list ds := by
  unfold listOfD at h
  split at h
  · cases h; rfl
  · cases h
def idxD : List PyData → PyData → Option Nat
  | ds, .str x => (strsOf ds).bind fun ys => sIdx ys x
  | _, _ => none
/-- o.index(e) -/
def eIdx (ml mx : ME) : ME := fun env => (ml env).bind fun p => (p.2.view p.1).bind fun d0 => (listOfD d0).bind fun _ => (mx p.1).bind fun q => (p.2.view q.1).bind fun d => (listOfD d).bind fun ds => (q.2.view q.1).bind fun kd => (idxD ds kd).bind fun j => some (q.1, .fz (.int (j : Nat)))
section
variable {X : Cx} {oe e : Expr} {ml mx : ME} {apos cpos : Pos}
theorem flat_strs : ∀ ys : List Str, (ys.map V.str).all flatV = true
  | [] => rfl
  | _ :: r => by rw [List.map_cons, List.all_cons, flat_strs r]; rfl
theorem idx_to {K : PySem.W.Frag} {σ : L2.St} {H : Hp} {Q : VK} (h : tE K (eIdx ml mx) σ H Q) : tBM K "list" (rIndex K) (tE K ml) (tCons (tE K mx) tNil) σ H Q := by
  obtain ⟨F, env, A, env', r, em, k⟩ := h
  obtain ⟨⟨env1, r1⟩, e1, em⟩ := bind_some em
  obtain ⟨d0, e2, em⟩ := bind_some em
  obtain ⟨ds0, e3, em⟩ := bind_some em
  obtain ⟨⟨env2, r2⟩, e4, em⟩ := bind_some em
  obtain ⟨d, e5, em⟩ := bind_some em
  obtain ⟨ds, e6, em⟩ := bind_some em
  obtain ⟨kd, e7, em⟩ := bind_some em
  obtain ⟨j, e8, em⟩ := bind_some em
  cases em
  refine ⟨F, env, A, env1, r1, e1, fun v F1 H1 A1 f1 o1 n1 => ?_⟩
  have z3 := listOfD_some e3
  subst z3
  have z6 := listOfD_some e6
  subst z6
  obtain ⟨a, xs0, rfl, h1, _⟩ := (RV.ok.rk o1 A1 e2).lst A1.same
  refine ⟨.inl ⟨rfl, xs0, h1⟩, F1, env1, A1, env2, r2, e4, fun u F2 H2 A2 f2 o2 n2 => ?_⟩
  obtain ⟨a', xs, ea, h3, h4⟩ := (RV.ok.rk (RV.ok.keep o1 f2) A2 e5).lst A2.same
  cases ea
  unfold idxD at e8
  split at e8
  · rename_i x
    obtain ⟨ys, q1, q2⟩ := bind_some e8
    have hx := rp_strs h4 q1
    subst hx
    obtain ⟨g1, g2⟩ := sIdx_some q2
    have hu := (RV.ok.rk o2 A2 e7).str
    subst hu
    refine ⟨a, ys.map V.str, .str x, j, .str x, rfl, rfl, h3, rfl, flat_strs ys, by rw [List.getElem?_map, g1]; rfl, by show (x == x) = true; simp, fun m z' hm hz => ?_, ?_⟩
    · rw [List.getElem?_map] at hz
      obtain ⟨z, hz2, e2⟩ := Option.map_eq_some_iff.mp hz
      subst e2
      show (z == x) = false
      exact beq_eq_false_iff_ne.mpr (g2 m z hm hz2)
    · exact k (.int (j : Nat)) F2 H2 A2 (f1.trans f2) (Rp.int _) trivial
  · cases e8
theorem re_idx (ho : PE X oe (tE X.K ml)) (he : PE X e (tE X.K mx)) (hbase : attributeBase oe "index" X.env (eval oe X.env) = eval oe X.env := by rfl)
    (hfew : ((backTo cpos (starEach [e] X.env)).all (fun x => !x.1) && (backToKw cpos (keywordEach [] X.env)).all (fun x => x.1.isSome) && decide ([e].length + ([] : List Keyword).length + (if ([] : List Keyword).isEmpty then 0 else 1) < 30)) = true := by rfl)
    (hline : (apos.endLine == cpos.line) = true := by rfl) (hs : starEach [e] X.env = (false, eval e X.env) :: starEach [] X.env := by rfl) (hplain : (backTo cpos (starEach [] X.env)).any (·.1) = false := by rfl) :
    PE X (.Call (.Attribute oe "index" apos) [e] [] cpos) (tE X.K (eIdx ml mx)) :=
  pe_imp (pe_bm PySem.F.plainAttrs_list PySem.F.slot_list_index PySem.F.type_list_index mt_index ho (pa_cons he pa_nil hs) hbase hfew hline hs hplain) fun _ _ _ => idx_to
end
section
variable {ml mx : ME} {e : MEnv} {P : MEnv → RV → Prop} {r r2 : RV} {d : PyData} {ds : List PyData}
def kIX5 (ds : List PyData) (P : MEnv → RV → Prop) (e : MEnv) (kd : PyData) : Prop := ∃ j, idxD ds kd = some j ∧ P e (.fz (.int (j : Nat)))
def kIX4 (r2 : RV) (P : MEnv → RV → Prop) (e : MEnv) (d : PyData) : Prop := ∃ ds, listOfD d = some ds ∧ WV r2 e (kIX5 ds P e)
def kIX3 (r : RV) (P : MEnv → RV → Prop) (e : MEnv) (r2 : RV) : Prop := WV r e (kIX4 r2 P e)
def kIX2 (r : RV) (mx : ME) (P : MEnv → RV → Prop) (e : MEnv) (d : PyData) : Prop := ∃ ds, listOfD d = some ds ∧ WE mx e (kIX3 r P)
def kIX1 (mx : ME) (P : MEnv → RV → Prop) (e : MEnv) (r : RV) : Prop := WV r e (kIX2 r mx P e)
theorem we_idx : WE (eIdx ml mx) e P ↔ WE ml e (kIX1 mx P) := by
  simp only [WE, eIdx, wp_bind, wp_some]
  exact Iff.rfl
theorem kIX1_eq : kIX1 mx P e r ↔ WV r e (kIX2 r mx P e) := Iff.rfl
theorem kIX2_l : kIX2 r mx P e (.list ds) ↔ WE mx e (kIX3 r P) := ⟨fun ⟨_, _, h⟩ => h, fun h => ⟨ds, rfl, h⟩⟩
theorem kIX3_eq : kIX3 r P e r2 ↔ WV r e (kIX4 r2 P e) := Iff.rfl
theorem kIX4_l : kIX4 r2 P e (.list ds) ↔ WV r2 e (kIX5 ds P e) := ⟨fun ⟨_, h1, h⟩ => by cases h1; exact h, fun h => ⟨ds, rfl, h⟩⟩
theorem idx_at {ys : List Str} {x : Str} {j : Nat} (h : sIdx ys x = some j) (k : P e (.fz (.int (j : Nat)))) : kIX5 (ys.map PyData.str) P e (.str x) := by
  refine ⟨j, ?_, k⟩
  have : strsOf (ys.map PyData.str) = some ys := by
    clear h
    induction ys with
    | nil => rfl
    | cons y r ih => rw [List.map_cons, strsOf, ih]; rfl
  show (strsOf (ys.map PyData.str)).bind _ = _
  rw [this]
  exact h
end
end L3

/-! L4P: zip of a tuple and a list. -/
namespace L3
open PySem PySem.Spec PyProof.Rows L2
def ItzM (K : PySem.W.Frag) (a b : Addr) : It :=
  ⟨fun i H => ∃ (xs ys : List V) (x y : V), SqT K H a xs ∧ SqL K H b ys ∧ xs[i]? = some x ∧ ys[i]? = some y,
    fun i H v H' => ∃ T x y, v = .ref T ∧ H T = none ∧ H' = upd H T (.tup [x, y]) ∧ (∀ xs, SqT K H a xs → xs[i]? = some x) ∧ ∀ ys, SqL K H b ys → ys[i]? = some y,
    fun i H => ∃ xs ys : List V, SqT K H a xs ∧ SqL K H b ys ∧ i ≤ xs.length ∧ i ≤ ys.length ∧ (i = xs.length ∨ i = ys.length)⟩
structure ApartM (z TI TO i1 i2 a b : Addr) : Prop where
  sep : PySem.ZipSep2 z TI TO i1 i2 [i1, a] [i2, b]
  TIz : TI ≠ z
  TOz : TO ≠ z
  TITO : TI ≠ TO
  TIi1 : TI ≠ i1
  TIi2 : TI ≠ i2
  i1z : i1 ≠ z
  i2z : i2 ≠ z
  ai1 : a ≠ i1
  bi2 : b ≠ i2
theorem turn_zipM {P : Program} {w : World} {K : PySem.W.Frag} {elts : List Expr} {kk : Nat} {tpos : Pos} {a b z TI TO i1 i2 : Addr} (D : ApartM z TI TO i1 i2 a b) :
    Turn P w K (.Tuple elts kk tpos) (ItzM K a b) [z, TI, TO, i1, i2] z (fun i h => IsZip h z TI TO .none ∧ IsTupOf2 h TI (.ref i1) (.ref i2) ∧ (∃ x y, IsTupOf2 h TO x y) ∧ h.IsTupleIter i1 a i ∧ h.IsListIter i2 b i) where
  mem := by simp
  obj := fun i h st c hc => by
    obtain ⟨hz, hTI, ⟨x, y, hTO⟩, ⟨o1, e1, _, d1⟩, ⟨o2, e2, _, d2⟩⟩ := st
    have e' : c = z ∨ c = TI ∨ c = TO ∨ c = i1 ∨ c = i2 := by simpa using hc
    rcases e' with q | q | q | q | q
    · rw [q]; exact ⟨_, hz, fun v q => nomatch q⟩
    · rw [q]; exact ⟨_, hTI, fun v q => nomatch q⟩
    · rw [q]; exact ⟨_, hTO, fun v q => nomatch q⟩
    · rw [q]; exact ⟨o1, e1, fun v q => by rw [d1] at q; cases q⟩
    · rw [q]; exact ⟨o2, e2, fun v q => by rw [d2] at q; cases q⟩
  keep := fun i h h' st k => by
    obtain ⟨hz, hTI, ⟨x, y, hTO⟩, h1, h2⟩ := st
    exact ⟨k z (by simp) _ hz, k TI (by simp) _ hTI, ⟨x, y, k TO (by simp) _ hTO⟩, h1.at fun o q => k i1 (by simp) o q, h2.at fun o q => k i2 (by simp) o q⟩
  item := by
    intro X hP hw hK hc i pins s σ H E I hf st hg
    subst hP hw hK
    obtain ⟨hz, hTI, ⟨x0, y0, hTO⟩, h1, h2⟩ := st
    obtain ⟨xs, ys, x, y, hqx, hqy, hx, hy⟩ := hg
    obtain ⟨its, rv, p, _⟩ := I.tuple hqx
    obtain ⟨its2, rv2, p2, _⟩ := I.list hqy
    obtain ⟨u', hu, ru'⟩ := rv.get hx
    obtain ⟨u2', hu2, ru2'⟩ := rv2.get hy
    have hzl : z < s.heap.objs.size := Heap.lt_size hz
    have hl1 : i < its.toArray.size := by simpa using (List.getElem?_eq_some_iff.mp hu).1
    have hl2 : i < its2.toArray.size := by simpa using (List.getElem?_eq_some_iff.mp hu2).1
    refine wpAny_pyNext_zipD2_item D.sep (Draws.tuple (A := X.A.in1) (I.ok.hd hc) i1 a D.ai1 its.toArray) (Draws.list (A := X.A.in1) (I.ok.hd hc) i2 b D.bi2 its2.toArray) hz hTI hTO ⟨h1, p⟩ ⟨h2, p2.isList⟩ hl1 hl2 fun u u2 h' tk q1 q2 z' TO' st1 st2 hT hsz hk => ?_
    have eu : u = u' := by
      have q1' : its[i]? = some u := by simpa using q1
      rw [hu] at q1'
      exact (Option.some.inj q1').symm
    have eu2 : u2 = u2' := by
      have q2' : its2[i]? = some u2 := by simpa using q2
      rw [hu2] at q2'
      exact (Option.some.inj q2').symm
    subst eu eu2
    obtain ⟨h1', _⟩ := st1
    obtain ⟨h2', _⟩ := st2
    refine ⟨_, rfl, wpAny_letOwnedTupleGo_zip (s := { s with heap := h', toks := tk }) z' fun h'' z'' sb => ?_⟩
    have hT2 : h''.get? s.heap.objs.size = some { cls := .type "tuple", data := .seq #[u, u2] } := (sb.2 _ (Nat.ne_of_gt hzl)).trans hT
    have new : ObjOk X.prog X.w (upd H s.heap.objs.size (.tup [x, y])) h'' s.heap.objs.size (.tup [x, y]) :=
      ⟨by show 2 ≤ sizeLine; decide, [u, u2], .cons ru' (.cons ru2' .nil), ⟨_, hT2, rfl, _, rfl⟩⟩
    have I1 : Inv X pins σ (upd H s.heap.objs.size (.tup [x, y])) { s with heap := h'', toks := tk } :=
      I.turnedNew (t' := tk) (ch := [z, TI, TO, i1, i2]) (fun c o hb q => (sb.2 c (fun q' => hb (by simp [q']))).trans (hk c o (fun q' => hb (by simp [q'])) (fun q' => hb (by simp [q'])) (fun q' => hb (by simp [q'])) (fun q' => hb (by simp [q'])) q)) hf (Nat.le_refl _) new
    refine ⟨.ref s.heap.objs.size, _, I1, rfl, ⟨_, x, y, rfl, I.hok.fresh (Nat.le_refl _), rfl, fun l hl => by rw [I.tuple_inj hl hqx]; exact hx, fun l hl => by rw [I.list_inj hl hqy]; exact hy⟩, ⟨z'', ?_, ⟨u, u2, ?_⟩, ?_, ?_⟩, fun c hcm => ?_⟩
    · exact (sb.2 _ D.TIz).trans (hk _ _ D.TIz D.TITO D.TIi1 D.TIi2 hTI)
    · exact (sb.2 _ D.TOz).trans TO'
    · exact h1'.at fun o q => (sb.2 _ D.i1z).trans q
    · exact h2'.at fun o q => (sb.2 _ D.i2z).trans q
    · have hlt : c < s.heap.objs.size := by
        have e' : c = z ∨ c = TI ∨ c = TO ∨ c = i1 ∨ c = i2 := by simpa using hcm
        rcases e' with q | q | q | q | q
        · rw [q]; exact hzl
        · rw [q]; exact Heap.lt_size hTI
        · rw [q]; exact Heap.lt_size hTO
        · rw [q]; obtain ⟨_, e1, _⟩ := h1; exact Heap.lt_size e1
        · rw [q]; obtain ⟨_, e2, _⟩ := h2; exact Heap.lt_size e2
      rw [upd_ne (Nat.ne_of_lt hlt)]
      exact (hf c hcm).1
  done := by
    intro X hP hw hK hc i pins s σ H E I hf st hg
    subst hP hw hK
    obtain ⟨hz, hTI, ⟨x0, y0, hTO⟩, h1, h2⟩ := st
    obtain ⟨xs, ys, hqx, hqy, g1, g2, hend⟩ := hg
    obtain ⟨its, rv, p, _⟩ := I.tuple hqx
    obtain ⟨its2, rv2, p2, _⟩ := I.list hqy
    have l1 := rv.length
    have l2 := rv2.length
    refine wpAny_pyNext_zipD2_end D.sep (Draws.tuple (A := X.A.in1) (I.ok.hd hc) i1 a D.ai1 its.toArray) (Draws.list (A := X.A.in1) (I.ok.hd hc) i2 b D.bi2 its2.toArray) hz hTI hTO ⟨h1, p⟩ ⟨h2, p2.isList⟩ (by simp; omega) (by simp; omega) (by simp; omega) fun h' tk hk => ⟨rfl, I.turnedL (t' := tk) (ch := [z, TI, TO, i1, i2]) (fun c o hb q =>
      hk c o (fun q' => hb (by simp [q'])) (fun q' => hb (by simp [q'])) (fun q' => hb (by simp [q'])) (fun q' => hb (by simp [q'])) q) hf⟩
  self := fun A i s Q E st h => wpAny_pyIter_zip st.1 h
def iZipMr (K : PySem.W.Frag) (ta : TA) : TI := fun σ H R => ta σ H fun vs H1 => ∃ a b xs ys, vs = [.ref a, .ref b] ∧ SqT K H1 a xs ∧ SqL K H1 b ys ∧ R (ItzM K a b) H1
theorem apart_new {N a b : Nat} (ha : a < N) (hb : b < N) : ApartM (N + 4) (N + 2) (N + 3) N (N + 1) a b where
  sep := zip_sep2 (N := N) (fp1 := [a]) (fp2 := [b]) (fun c hc => by rw [List.mem_singleton.mp hc]; exact ha) fun c hc => by rw [List.mem_singleton.mp hc]; exact hb
  TIz := show N + 2 ≠ N + 4 by omega
  TOz := show N + 3 ≠ N + 4 by omega
  TITO := show N + 2 ≠ N + 3 by omega
  TIi1 := show N + 2 ≠ N by omega
  TIi2 := show N + 2 ≠ N + 1 by omega
  i1z := show N ≠ N + 4 by omega
  i2z := show N + 1 ≠ N + 4 by omega
  ai1 := show a ≠ N by omega
  bi2 := show b ≠ N + 1 by omega
theorem pi_zipM {X : Cx} {e e2 : Expr} {ta : TA} {p pos tpos : Pos} {elts : List Expr} {kk : Nat} (hg : Gl X "zip") (hm : X.mg "zip" = none) (ha : PA X [e, e2] ta)
    (hs : starEach [e, e2] X.env = (false, eval e X.env) :: starEach [e2] X.env := by rfl) (hpl : (backTo pos (starEach [e2] X.env)).any (·.1) = false := by rfl) :
    PI X (.Tuple elts kk tpos) (.Call (.Name "zip" p) [e, e2] [] pos) (iZipMr X.K ta) := by
  refine ⟨fun pins s σ H R I h => ?_⟩
  refine Call_ (ld_blt I hg hm PyProof.Rows.boot_zip (PyProof.Rows.callWith_type1 (thn (ha.run pos pins s σ H _ I h) fun us s1 ⟨vs, H1, I1, r1, q1⟩ => ?_) hs hpl))
  obtain ⟨a, b, xs, ys, ex, hqx, hqy, q⟩ := q1
  subst ex
  cases r1 with
  | cons r rr =>
    cases rr with
    | cons r' rr =>
      cases rr
      cases r
      cases r'
      have fresh5 : ∀ c, c ∈ [s1.heap.objs.size + 4, s1.heap.objs.size + 2, s1.heap.objs.size + 3, s1.heap.objs.size, s1.heap.objs.size + 1] → FpOk X pins H1 c := fun c hcm => by
        have e' : c = s1.heap.objs.size + 4 ∨ c = s1.heap.objs.size + 2 ∨ c = s1.heap.objs.size + 3 ∨ c = s1.heap.objs.size ∨ c = s1.heap.objs.size + 1 := by simpa using hcm
        have hle : s1.heap.objs.size ≤ c := by
          rcases e' with z | z | z | z | z
          · rw [z]; exact Nat.le_add_right _ _
          · rw [z]; exact Nat.le_add_right _ _
          · rw [z]; exact Nat.le_add_right _ _
          · rw [z]; exact Nat.le_refl _
          · rw [z]; exact Nat.le_add_right _ _
        exact I1.fpOk hle (I1.hok.fresh hle)
      obtain ⟨its, rv, p1, _⟩ := I1.tuple hqx
      obtain ⟨its2, rv2, p2, _⟩ := I1.list hqy
      obtain ⟨o1, ho1, _⟩ := id p1
      refine zip_begins2 (begins_tuple a its.toArray) (begins_list b its2.toArray) (show s1.heap.IsTuple a its.toArray from p1) p2.isList fun h' hz hTI hTO h1 h2 hsz hk => wpAny_pyIter_zip hz ?_
      have I2 : Inv X pins σ H1 { s1 with heap := h' } := I1.kept (t' := s1.toks) hk
      exact ⟨s1.heap.objs.size + 4, [s1.heap.objs.size + 4, s1.heap.objs.size + 2, s1.heap.objs.size + 3, s1.heap.objs.size, s1.heap.objs.size + 1], _, _, H1, rfl, I2, turn_zipM (apart_new (Heap.lt_size ho1) p2.lt), ⟨hz, hTI, ⟨_, _, hTO⟩, ⟨_, h1, rfl, rfl⟩, ⟨_, h2, rfl, rfl⟩⟩, fresh5, q⟩
def iZipM (ms : MA) : MI := fun env => (ms env).bind fun p => (fixAll p.1 p.2).bind fun q => match q.2 with
  | [.tuple as, .list bs] => some (q.1, zipD as bs)
  | _ => none
theorem it_zipM {K : PySem.W.Frag} {F : Hp} {a b : Addr} {xs ys : List V} {as bs : List PyData} (h : SqT K F a xs) (h' : SqL K F b ys) (r : RpAll K F xs as) (r' : RpAll K F ys bs) : ItOk K (ItzM K a b) F (zipD as bs) where
  stop := fun H s => ⟨xs, ys, sqt_mono s h, sql_mono s h', by rw [zipD_length, r.length]; omega, by rw [zipD_length, r'.length]; omega, by rw [zipD_length, r.length, r'.length]; omega⟩
  go := fun i H s hi => by
    rw [zipD_length] at hi
    have h1 : i < xs.length := by rw [r.length]; omega
    have h2 : i < ys.length := by rw [r'.length]; omega
    exact ⟨xs, ys, xs[i], ys[i], sqt_mono s h, sql_mono s h', List.getElem?_eq_getElem h1, List.getElem?_eq_getElem h2⟩
  yld := fun i H G v H' d s s' q e => by
    obtain ⟨T, x, y, rfl, hT, rfl, hx, hy⟩ := q
    exact zip_new r r' s s' hT (hx xs (sqt_mono (s.trans s') h)) (hy ys (sql_mono (s.trans s') h')) e
theorem ri_zipM {X : Cx} {ms : MA} {e e2 : Expr} {p pos tpos : Pos} {elts : List Expr} {kk : Nat} (hg : Gl X "zip") (hm : X.mg "zip" = none) (ha : PA X [e, e2] (tAs X.K ms))
    (hs : starEach [e, e2] X.env = (false, eval e X.env) :: starEach [e2] X.env := by rfl) (hpl : (backTo pos (starEach [e2] X.env)).any (·.1) = false := by rfl) :
    PI X (.Tuple elts kk tpos) (.Call (.Name "zip" p) [e, e2] [] pos) (tIt X.K (iZipM ms)) := by
  refine pi_imp (pi_zipM hg hm ha hs hpl) fun σ H R ⟨F, env, A, env', ds, em, k⟩ => ?_
  obtain ⟨⟨env1, rs⟩, e1, em⟩ := bind_some em
  obtain ⟨⟨env2, ds2⟩, e2, em⟩ := bind_some em
  refine ⟨F, env, A, env1, rs, e1, fun vs F1 H1 A1 f1 o1 n1 => ?_⟩
  obtain ⟨F2, A2, f2, r2, s2⟩ := fix_all A1 f1 o1 n1 e2
  split at em
  · rename_i as bs e3
    cases em
    cases (show ds2 = _ from e3)
    cases r2 with
    | cons ra r2 =>
    cases r2 with
    | cons rb r2 =>
    cases r2
    cases ra with
    | tup qa ra =>
    cases rb with
    | lst qb rb =>
    exact ⟨_, _, _, _, rfl, SqT.of (A2.same _ _ qa), sql_mono A2.same qb, k _ F2 H1 A2 f2 (it_zipM (SqT.of qa) qb ra rb)⟩
  · cases em
section
variable {ma : MA} {e : MEnv} {rs : List RV}
def kZipMb (P : MEnv → List PyData → Prop) (e : MEnv) : List PyData → Prop
  | [.tuple as, .list bs] => P e (zipD as bs)
  | _ => False
def kZipM (P : MEnv → List PyData → Prop) (e : MEnv) (rs : List RV) : Prop := WFs rs e (kZipMb P)
theorem wi_zipM {Pi : MEnv → List PyData → Prop} : WI (iZipM ma) e Pi ↔ WA ma e (kZipM Pi) := by
  simp only [WI, WA, WFs, iZipM, kZipM, wp_bind]
  refine ⟨fun h => h.imp fun p h => h.imp fun q h => ?_, fun h => h.imp fun p h => h.imp fun q h => ?_⟩
  · split at h
    · rename_i as bs e1
      have h' : Pi q.1 (zipD as bs) := (wp_some.mp h :)
      first | (rw [e1]; exact h') | exact h'
    · exact (wp_none.mp h).elim
  · unfold kZipMb at h
    split at h
    · rename_i as bs e1
      first | (rw [e1]; exact wp_some.mpr h) | exact wp_some.mpr h
    · exact h.elim
theorem kZipM_eq {Pi : MEnv → List PyData → Prop} : kZipM Pi e rs ↔ WFs rs e (kZipMb Pi) := Iff.rfl
theorem kZipMb_tl {Pi : MEnv → List PyData → Prop} {as bs : List PyData} : kZipMb Pi e [.tuple as, .list bs] ↔ Pi e (zipD as bs) := Iff.rfl
end
end L3

/-! L4Q: a dict is walked by its keys: it stands locked while the walk lasts. -/
namespace L3
open PySem PySem.Spec PyProof.Rows L2

def isDictO : HO → Prop
  | .dK _ => True
  | .dT _ => True
  | _ => False
section
variable {K : PySem.W.Frag} {F H F' H' F1 H1 : Hp} {σ σ' : L2.St} {env env1 e : MEnv} {a : Addr} {u : HO} {od : Obj}
/-- a dict that is not empty -/
def fullO : HO → Prop
  | .dK ks => ks ≠ []
  | .dT ks => ks ≠ []
  | _ => False
mutual
theorem Rp.lock (ha : F a = some u) (hu : fullO u) : ∀ {d : PyData} {v : V}, Rp K F v d → Rp K (upd F a (.frz od u)) v d
  | _, _, .non => .non
  | _, _, .bl b => .bl b
  | _, _, .int i => .int i
  | _, _, .str x => .str x
  | _, _, .lst (a := b) h t => by
    refine .lst ?_ (RpAll.lock ha hu t)
    rcases h with (h | ⟨o, h⟩) | h
    · refine .inl (.inl ?_)
      rw [upd_ne (fun z => by subst z; rw [ha] at h; cases h; exact hu)]; exact h
    · refine .inl (.inr ⟨o, ?_⟩)
      rw [upd_ne (fun z => by subst z; rw [ha] at h; cases h; exact hu)]; exact h
    · exact .inr h
  | _, _, .tup (a := b) h t => by
    refine .tup ?_ (RpAll.lock ha hu t)
    rw [upd_ne (fun z => by subst z; rw [ha] at h; cases h; exact hu)]; exact h
  | _, _, .dK (a := b) h t => by
    refine .dK ?_ (RpAll.lock ha hu t)
    by_cases hb : b = a
    · subst hb
      rcases h with h | ⟨n, o, h⟩
      · rw [ha] at h; cases h
        exact .inr ⟨hu, od, upd_same⟩
      · rw [ha] at h; cases h; exact hu.elim
    · rcases h with h | ⟨n, o, h⟩
      · exact .inl (by rw [upd_ne hb]; exact h)
      · exact .inr ⟨n, o, by rw [upd_ne hb]; exact h⟩
  | _, _, .dT (a := b) h n t => by
    refine .dT ?_ n (RpAll.lock ha hu t)
    by_cases hb : b = a
    · subst hb
      rcases h with h | ⟨o, h⟩
      · rw [ha] at h; cases h
        exact .inr ⟨od, upd_same⟩
      · rw [ha] at h; cases h; exact hu.elim
    · rcases h with h | ⟨o, h⟩
      · exact .inl (by rw [upd_ne hb]; exact h)
      · exact .inr ⟨o, by rw [upd_ne hb]; exact h⟩
  | _, _, .dB (a := b) h n => .dB (by rw [upd_ne (fun z => by subst z; rw [ha] at h; cases h; exact hu)]; exact h) n
theorem RpAll.lock (ha : F a = some u) (hu : fullO u) : ∀ {ds : List PyData} {vs : List V}, RpAll K F vs ds → RpAll K (upd F a (.frz od u)) vs ds
  | _, _, .nil => .nil
  | _, _, .cons h t => .cons (Rp.lock ha hu h) (RpAll.lock ha hu t)
end
mutual
theorem Rp.unlock (ha : F a = some (.frz od u)) (hu : fullO u) : ∀ {d : PyData} {v : V}, Rp K F v d → Rp K (upd F a u) v d
  | _, _, .non => .non
  | _, _, .bl b => .bl b
  | _, _, .int i => .int i
  | _, _, .str x => .str x
  | _, _, .lst (a := b) h t => by
    refine .lst ?_ (RpAll.unlock ha hu t)
    rcases h with (h | ⟨o, h⟩) | h
    · refine .inl (.inl ?_)
      rw [upd_ne (fun z => by subst z; rw [ha] at h; cases h)]; exact h
    · refine .inl (.inr ⟨o, ?_⟩)
      rw [upd_ne (fun z => by subst z; rw [ha] at h; cases h; exact hu)]; exact h
    · exact .inr h
  | _, _, .tup (a := b) h t => by
    refine .tup ?_ (RpAll.unlock ha hu t)
    rw [upd_ne (fun z => by subst z; rw [ha] at h; cases h)]; exact h
  | _, _, .dK (a := b) h t => by
    refine .dK ?_ (RpAll.unlock ha hu t)
    by_cases hb : b = a
    · subst hb
      rcases h with h | ⟨n, o, h⟩
      · rw [ha] at h; cases h
      · rw [ha] at h; cases h
        exact .inl upd_same
    · rcases h with h | ⟨n, o, h⟩
      · exact .inl (by rw [upd_ne hb]; exact h)
      · exact .inr ⟨n, o, by rw [upd_ne hb]; exact h⟩
  | _, _, .dT (a := b) h n t => by
    refine .dT ?_ n (RpAll.unlock ha hu t)
    by_cases hb : b = a
    · subst hb
      rcases h with h | ⟨o, h⟩
      · rw [ha] at h; cases h
      · rw [ha] at h; cases h
        exact .inl upd_same
    · rcases h with h | ⟨o, h⟩
      · exact .inl (by rw [upd_ne hb]; exact h)
      · exact .inr ⟨o, by rw [upd_ne hb]; exact h⟩
  | _, _, .dB (a := b) h n => .dB (by rw [upd_ne (fun z => by subst z; rw [ha] at h; cases h)]; exact h) n
theorem RpAll.unlock (ha : F a = some (.frz od u)) (hu : fullO u) : ∀ {ds : List PyData} {vs : List V}, RpAll K F vs ds → RpAll K (upd F a u) vs ds
  | _, _, .nil => .nil
  | _, _, .cons h t => .cons (Rp.unlock ha hu h) (RpAll.unlock ha hu t)
end
theorem OwnC.re {b : Addr} {d : PyData} (h : OwnC K F H b d) (g : ∀ {ds : List PyData} {vs : List V}, RpAll K F vs ds → RpAll K F' vs ds) (k : H' b = H b) : OwnC K F' H' b d := by
  cases d with
  | list ds => obtain ⟨xs, q, r⟩ := h; exact ⟨xs, k.trans q, g r⟩
  | dict kvs =>
    rcases h with ⟨ks, ds, q, r, z⟩ | ⟨ks, ds, q, r, n, z⟩ | ⟨vs, q, n, z⟩
    · exact .inl ⟨ks, ds, k.trans q, g r, z⟩
    · exact .inr (.inl ⟨ks, ds, k.trans q, g r, n, z⟩)
    · exact .inr (.inr ⟨vs, k.trans q, n, z⟩)
  | _ => exact h.elim
theorem slot_re {x : SV} {y : Option (Option V)} (h : x.ok K F H y) (g1 : ∀ {d : PyData} {v : V}, Rp K F v d → Rp K F' v d) (g : ∀ {ds : List PyData} {vs : List V}, RpAll K F vs ds → RpAll K F' vs ds) (k : ∀ b, F b = none → F' b = none ∧ H' b = H b) : x.ok K F' H' y := by
  cases x with
  | unb => trivial
  | fz d => obtain ⟨v, q, r⟩ := h; exact ⟨v, q, g1 r⟩
  | rfz d => obtain ⟨v, q, r⟩ := h; exact ⟨v, q, g1 r⟩
  | own d => obtain ⟨b, q, f, c⟩ := h; exact ⟨b, q, (k b f).1, c.re g (k b f).2⟩
  | ref d => obtain ⟨b, q, f, c⟩ := h; exact ⟨b, q, (k b f).1, c.re g (k b f).2⟩
theorem abs_lock (A : Abs K F H σ env) (ha : F a = some u) (hu : fullO u) : Abs K (upd F a (.frz od u)) (upd H a (.frz od u)) σ env := by
  refine ⟨fun b o q => ?_, A.len, fun i x q => slot_re (A.slot i x q) (fun r => r.lock ha hu) (fun r => r.lock ha hu) fun b hb => ?_, A.inj⟩
  · by_cases hb : b = a
    · subst hb; rw [upd_same] at q ⊢; exact q
    · rw [upd_ne hb] at q ⊢; exact A.same b o q
  · have hne : b ≠ a := fun z => by subst z; rw [ha] at hb; cases hb
    exact ⟨by rw [upd_ne hne]; exact hb, upd_ne hne⟩
theorem abs_unlock (A : Abs K F H σ env) (ha : F a = some (.frz od u)) (hu : fullO u) : Abs K (upd F a u) (upd H a u) σ env := by
  refine ⟨fun b o q => ?_, A.len, fun i x q => slot_re (A.slot i x q) (fun r => r.unlock ha hu) (fun r => r.unlock ha hu) fun b hb => ?_, A.inj⟩
  · by_cases hb : b = a
    · subst hb; rw [upd_same] at q ⊢; exact q
    · rw [upd_ne hb] at q ⊢; exact A.same b o q
  · have hne : b ≠ a := fun z => by subst z; rw [ha] at hb; cases hb
    exact ⟨by rw [upd_ne hne]; exact hb, upd_ne hne⟩
theorem frm_unlock (f : Frm (upd F1 a (.frz od u)) (upd H1 a (.frz od u)) σ env1 F' H' σ' e) (ha : F1 a = some u) (hA : H1 a = some u) : Frm F1 H1 σ env1 (upd F' a u) (upd H' a u) σ' e := by
  have none1 : ∀ b, upd H1 a (.frz od u) b = none → H1 b = none := fun b z => by
    by_cases hb : b = a
    · subst hb; rw [upd_same] at z; cases z
    · rw [upd_ne hb] at z; exact z
  refine ⟨fun b o q => ?_, fun b o q n => ?_, fun b o q => ?_, fun b o q => ?_, fun b q => (f.own b q).imp id (none1 b), fun b q => (f.ownU b q).imp id (none1 b), f.lock, f.len⟩
  · by_cases hb : b = a
    · subst hb; rw [ha] at q; cases q; exact upd_same
    · rw [upd_ne hb]; exact f.sameF b o (by rw [upd_ne hb]; exact q)
  · by_cases hb : b = a
    · subst hb; rw [hA] at q; cases q; exact upd_same
    · rw [upd_ne hb]; exact f.keep b o (by rw [upd_ne hb]; exact q) n
  · by_cases hb : b = a
    · subst hb; exact ⟨_, upd_same⟩
    · rw [upd_ne hb]; exact f.there b o (by rw [upd_ne hb]; exact q)
  · by_cases hb : b = a
    · subst hb; rw [upd_same] at q; cases q; exact .inl ha
    · rw [upd_ne hb] at q
      rcases f.new b o q with z | z | z
      · exact .inl (by rw [upd_ne hb] at z; exact z)
      · exact .inr (.inl fun w hw => z w (by rw [upd_ne hb]; exact hw))
      · exact .inr (.inr z)
theorem rv_unlock {r : RV} {v : V} (h : r.ok K F H σ env v) (ha : F a = some (.frz od u)) (hu : fullO u) : r.ok K (upd F a u) (upd H a u) σ env v := by
  cases r with
  | fz d => exact Rp.unlock ha hu h
  | own d =>
    obtain ⟨b, e1, e2, e3, e4⟩ := h
    have hne : b ≠ a := fun z => by subst z; rw [ha] at e2; cases e2
    exact ⟨b, e1, by rw [upd_ne hne]; exact e2, e3.re (fun r => r.unlock ha hu) (upd_ne hne), e4⟩
  | plc i => exact h
/-- the ends of what runs while a stands locked -/
def lockD (a : Addr) (od : Obj) (u : HO) (D : Ends) : Ends := ⟨fun σ' H' => H' a = some (.frz od u) ∧ D.nx σ' (upd H' a u), fun v H' => H' a = some (.frz od u) ∧ D.rt v (upd H' a u), fun σ' H' => H' a = some (.frz od u) ∧ D.bk σ' (upd H' a u), fun σ' H' => H' a = some (.frz od u) ∧ D.ct σ' (upd H' a u)⟩
theorem outK_lock {D : Ends} {o : Out} (k : OutK K F1 H1 σ env1 D o) (A : Abs K F1 H1 σ env1) (ha : F1 a = some u) (hu : fullO u) : OutK K (upd F1 a (.frz od u)) (upd H1 a (.frz od u)) σ env1 (lockD a od u D) o := by
  have hA := A.same a u ha
  have at1 : ∀ {σ' : L2.St} {F' H' : Hp} {e : MEnv}, Abs K F' H' σ' e → Frm (upd F1 a (.frz od u)) (upd H1 a (.frz od u)) σ env1 F' H' σ' e → F' a = some (.frz od u) ∧ H' a = some (.frz od u) := fun {σ' F' H' e} A' f' => by
    have h1 := f'.sameF a _ upd_same
    exact ⟨h1, A'.same _ _ h1⟩
  cases o with
  | nx e => exact fun σ' F' H' A' f' => ⟨(at1 A' f').2, k σ' _ _ (abs_unlock A' (at1 A' f').1 hu) (frm_unlock f' ha hA)⟩
  | bk e => exact fun σ' F' H' A' f' => ⟨(at1 A' f').2, k σ' _ _ (abs_unlock A' (at1 A' f').1 hu) (frm_unlock f' ha hA)⟩
  | ct e => exact fun σ' F' H' A' f' => ⟨(at1 A' f').2, k σ' _ _ (abs_unlock A' (at1 A' f').1 hu) (frm_unlock f' ha hA)⟩
  | rt r e =>
    refine fun v σ' F' H' A' f' ok nw => ⟨(at1 A' f').2, k v σ' _ _ (abs_unlock A' (at1 A' f').1 hu) (frm_unlock f' ha hA) (rv_unlock ok (at1 A' f').1 hu) ?_⟩
    cases r with
    | fz d => trivial
    | plc i => exact nw.elim
    | own d =>
      obtain ⟨b, e1, e2⟩ := nw
      refine ⟨b, e1, e2.imp id fun z => ?_⟩
      by_cases hb : b = a
      · subst hb; rw [upd_same] at z; cases z
      · rw [upd_ne hb] at z; exact z
end

/-! ### the keys -/
theorem rp_keyD {K : PySem.W.Frag} {F : Hp} (k : Key) : Rp K F (kV k) (keyD k) := by
  cases k with
  | inl i => exact .int i
  | inr x => exact .str x
theorem rp_keyDs {K : PySem.W.Frag} {F : Hp} : ∀ k : List Key, RpAll K F (k.map kV) (k.map keyD)
  | [] => .nil
  | k :: ks => .cons (rp_keyD k) (rp_keyDs ks)
theorem it_keysK {K : PySem.W.Frag} {F : Hp} {a : Addr} {od : Obj} {ks : List (Key × V)} (h : F a = some (.frz od (.dK ks))) : ItOk K (Itk a od ks) F (ks.map fun p => keyD p.1) where
  stop := fun H s => ⟨s _ _ h, by rw [List.length_map]; exact Nat.le_refl _⟩
  go := fun i H s hi => ⟨s _ _ h, by rw [List.length_map] at hi; exact hi⟩
  yld := fun i H G x H' d s s' y e => by
    obtain ⟨rfl, k, v, y1, rfl⟩ := y
    rw [List.getElem?_map, y1] at e
    cases e
    exact ⟨G, Same.refl _, Same.refl _, s', fun _ _ h => .inl h, rp_keyD k⟩
theorem it_keysT {K : PySem.W.Frag} {F : Hp} {a : Addr} {od : Obj} {ks : List (List Key × V)} (h : F a = some (.frz od (.dT ks))) : ItOk K (Itkt a od ks) F (ks.map fun p => PyData.tuple (p.1.map keyD)) where
  stop := fun H s => ⟨s _ _ h, by rw [List.length_map]; exact Nat.le_refl _⟩
  go := fun i H s hi => ⟨s _ _ h, by rw [List.length_map] at hi; exact hi⟩
  yld := fun i H G x H' d s s' y e => by
    obtain ⟨rfl, k, v, q, y1, rfl, hq⟩ := y
    rw [List.getElem?_map, y1] at e
    cases e
    have gq : ∀ o, G q = some o → o = .tup (k.map kV) := fun o z => by
      have := s' _ _ z
      rw [hq] at this
      exact (Option.some.inj this).symm
    have sG : Same G (upd G q (.tup (k.map kV))) := fun b o z => by
      by_cases hb : b = q
      · subst hb; rw [gq o z]; exact upd_same
      · rw [upd_ne hb]; exact z
    refine ⟨upd G q (.tup (k.map kV)), sG, Same.refl _, fun b o z => ?_, fun b o z => ?_, .tup upd_same (rp_keyDs k)⟩
    · by_cases hb : b = q
      · subst hb; rw [upd_same] at z; cases z; exact hq
      · rw [upd_ne hb] at z; exact s' b o z
    · by_cases hb : b = q
      · subst hb; exact .inr (Lo.tup hq)
      · rw [upd_ne hb] at z; exact .inl z
def dkeys (kvs : List (PyData × PyData)) : List PyData := kvs.map (·.1)
theorem dkeys_K {K : PySem.W.Frag} {F : Hp} {ks : List (Key × V)} {ds : List PyData} (h : RpAll K F (ks.map (·.2)) ds) : dkeys ((ks.map fun p => keyD p.1).zip ds) = ks.map fun p => keyD p.1 := by
  unfold dkeys
  rw [List.map_fst_zip]
  rw [List.length_map, ← h.length, List.length_map]
  exact Nat.le_refl _
theorem dkeys_T {K : PySem.W.Frag} {F : Hp} {ks : List (List Key × V)} {ds : List PyData} (h : RpAll K F (ks.map (·.2)) ds) : dkeys ((ks.map fun p => PyData.tuple (p.1.map keyD)).zip ds) = ks.map fun p => PyData.tuple (p.1.map keyD) := by
  unfold dkeys
  rw [List.map_fst_zip]
  rw [List.length_map, ← h.length, List.length_map]
  exact Nat.le_refl _
/-- no dict of truths -/
def keyed (kvs : List (PyData × PyData)) : Bool := match kvs with
  | (.bool _, _) :: _ => false
  | _ => true
/-- the keys of the dict in slot i -/
def iKeysS (i : Nat) : MI := fun env => (env[i]?).bind fun x => x.view.bind fun d => match d with
  | .dict kvs => if keyed kvs = true then some (env.set i x.freeze, dkeys kvs) else none
  | _ => none
theorem keyed_no {vs : List (Bool × Bool)} (n : vs ≠ []) : keyed (truD vs) = false := by
  cases vs with
  | nil => exact (n rfl).elim
  | cons p r => rfl
theorem upd_at {H : Hp} {a : Addr} {u : HO} (h : H a = some u) : upd H a u = H := by
  funext b
  by_cases hb : b = a
  · subst hb; rw [upd_same]; exact h.symm
  · exact upd_ne hb
theorem ps_or {X : Cx} {st : Stmt} {t t' : TS} (h : PS X st t) (h' : PS X st t') : PS X st (fun D σ H => t D σ H ∨ t' D σ H) :=
  ⟨fun pins s σ H D I q => q.elim (h.run pins s σ H D I) (h'.run pins s σ H D I)⟩
theorem pe_or {X : Cx} {e : Expr} {t t' : TE} (h : PE X e t) (h' : PE X e t') : PE X e (fun σ H Q => t σ H Q ∨ t' σ H Q) :=
  ⟨fun pins s σ H Q I q => q.elim (h.run pins s σ H Q I) (h'.run pins s σ H Q I)⟩
section
variable {X : Cx} {m : MS} {g : MG} {is : List Nat} {i : Nat} {pos : Pos}
theorem forK_to {K : PySem.W.Frag} {D : Ends} {σ : L2.St} {H : Hp} (h : tS K (sFor g (iKeysS i) m) D σ H) :
    tLock (tFor (iKeys (tVar i)) (tG K is g) (tS K m)) D σ H ∨ tFor (iKeys (tVar i)) (tG K is g) (tS K m) D σ H := by
  obtain ⟨F, env, A, o, em, k⟩ := h
  obtain ⟨⟨env1, ds⟩, e1, em⟩ := bind_some em
  obtain ⟨x, ex, e1⟩ := bind_some e1
  obtain ⟨d, ed, e1⟩ := bind_some e1
  cases d with
  | dict kvs =>
    dsimp only at e1
    split at e1
    case isFalse => cases e1
    rename_i hkd
    cases e1
    obtain ⟨F1, v, hv, A1, f1, r1⟩ := freeze_slot A ex ed
    have k1 := k.back f1
    cases r1 with
    | @dK a ks ds q t =>
      rw [dkeys_K t] at em
      rcases q with q | ⟨n, od, q⟩
      · have hA := A1.same _ _ q
        refine .inl ⟨a, .dK ks, hA, trivial, fun od => ⟨.ref a, hv, a, od, rfl, .inl ⟨ks, upd_same, ?_⟩⟩⟩
        by_cases hk : ks = []
        · subst hk
          cases em
          refine ⟨fun i mm σ' H' => i = 0 ∧ σ' = σ ∧ H' = upd H a (.frz od (.dK [])), ⟨0, rfl, rfl, rfl⟩, ?_⟩
          rintro i mm σ' H' ⟨rfl, rfl, rfl⟩
          refine .inl ⟨⟨upd_same, Nat.le_refl _⟩, upd_same, ?_⟩
          rw [upd_upd, upd_at hA]
          exact k1 _ F1 H A1 (Frm.refl _ _ _ _)
        · exact for_core (abs_lock (od := od) A1 q hk) (it_keysK upd_same) em (outK_lock k1 A1 q hk)
      · refine .inr ⟨.ref a, hv, a, od, rfl, .inl ⟨ks, A1.same _ _ q, ?_⟩⟩
        exact for_core A1 (it_keysK q) em k1
    | @dT a ks ds q n t =>
      rw [dkeys_T t] at em
      rcases q with q | ⟨od, q⟩
      · have hA := A1.same _ _ q
        refine .inl ⟨a, .dT ks, hA, trivial, fun od => ⟨.ref a, hv, a, od, rfl, .inr ⟨ks, upd_same, ?_⟩⟩⟩
        exact for_core (abs_lock (od := od) A1 q n) (it_keysT upd_same) em (outK_lock k1 A1 q n)
      · refine .inr ⟨.ref a, hv, a, od, rfl, .inr ⟨ks, A1.same _ _ q, ?_⟩⟩
        exact for_core A1 (it_keysT q) em k1
    | dB q n => rw [keyed_no n] at hkd; cases hkd
  | _ => cases e1
theorem rs_forK {tg iter : Expr} {body : List Stmt} (hp : PassesOwn (model X.prog X.w) X.A X.env X.xe) (hc : X.calm = true) (hv : PE X iter (tVar i)) (hg : PG X tg (tG X.K is g)) (hb : PSs X body (tS X.K m))
    (hs : ∀ x, foldedSetIterable iter X.env x = pure x := by intro _; rfl) : PS X (.For tg iter body [] pos) (tS X.K (sFor g (iKeysS i) m)) :=
  have h := ps_for (pos := pos) hp hc (pi_keys hv) hg hb hs
  ps_imp (ps_or (ps_lock h) h) fun _ _ _ => forK_to
theorem lcK_to {K : PySem.W.Frag} {vs : List Nat} {t : MT} {me : ME} (hi : ∀ j ∈ is, j ∈ vs) {σ : L2.St} {H : Hp} {Q : VK} (h : tE K (eLc vs g (iKeysS i) t me) σ H Q) :
    tLockE (tLc (iKeys (tVar i)) (tG K is g) (tT K t) (tE K me) vs) σ H Q ∨ tLc (iKeys (tVar i)) (tG K is g) (tT K t) (tE K me) vs σ H Q := by
  obtain ⟨F, env, A, env', r, em, k⟩ := h
  obtain ⟨⟨env1, ds⟩, e1, em⟩ := bind_some em
  split at em
  case isFalse => cases em
  rename_i hun
  obtain ⟨⟨env2, accE⟩, e2, em⟩ := bind_some em
  cases em
  obtain ⟨x, ex, e1⟩ := bind_some e1
  obtain ⟨d, ed, e1⟩ := bind_some e1
  cases d with
  | dict kvs =>
    dsimp only at e1
    split at e1
    case isFalse => cases e1
    rename_i hkd
    cases e1
    obtain ⟨F1, v, hv, A1, f1, r1⟩ := freeze_slot A ex ed
    have plain : ∀ {J : It} {dd : List PyData}, ItOk K J F1 dd → lcLoop g t me vs dd (wipeE (env.set i x.freeze) vs) [] = some (env2, accE) → ∀ D, H D = none → _ := fun {J dd} it e3 D hD =>
      lc_core1 (is := is) (Q := Q) hi A1 it hun e3 hD fun F' H' A9 f9 ok => k (.ref D) F' H' A9 (f1.trans f9) ok ⟨D, rfl, hD⟩
    have lock : ∀ {J : It} {dd : List PyData} {a : Addr} {u : HO} {od : Obj}, F1 a = some u → fullO u → ItOk K J (upd F1 a (.frz od u)) dd → lcLoop g t me vs dd (wipeE (env.set i x.freeze) vs) [] = some (env2, accE) → ∀ D, upd H a (.frz od u) D = none → _ := fun {J dd a u od} q hu it e3 D hD =>
      lc_core1 (is := is) (Q := fun v H' => H' a = some (.frz od u) ∧ Q v (upd H' a u)) hi (abs_lock (od := od) A1 q hu) it hun e3 hD fun F' H' A9 f9 ok => by
        have h1 := f9.sameF a _ upd_same
        have hA := A1.same _ _ q
        refine ⟨A9.same _ _ h1, k (.ref D) _ _ (abs_unlock A9 h1 hu) (f1.trans (frm_unlock f9 q hA)) (rv_unlock ok h1 hu) ⟨D, rfl, ?_⟩⟩
        by_cases hb : D = a
        · subst hb; rw [upd_same] at hD; cases hD
        · rw [upd_ne hb] at hD; exact hD
    cases r1 with
    | @dK a ks ds q t2 =>
      rw [dkeys_K t2] at e2
      rcases q with q | ⟨n, od, q⟩
      · have hA := A1.same _ _ q
        refine .inl ⟨a, .dK ks, hA, trivial, fun od => ⟨.ref a, hv, a, od, rfl, .inl ⟨ks, upd_same, ?_⟩⟩⟩
        by_cases hk : ks = []
        · subst hk
          cases e2
          intro D hD
          have hne : D ≠ a := fun z => by subst z; rw [upd_same] at hD; cases hD
          have hD' : H D = none := by rw [upd_ne hne] at hD; exact hD
          refine ⟨fun i mm H' => i = 0 ∧ H' = upd (upd H a (.frz od (.dK []))) D (.lst []), ⟨0, rfl, rfl⟩, ?_⟩
          rintro i mm H' ⟨rfl, rfl⟩
          have ha2 : upd (upd H a (.frz od (.dK []))) D (.lst []) a = some (.frz od (.dK [])) := by rw [upd_ne hne.symm, upd_same]
          refine .inl ⟨⟨ha2, Nat.le_refl _⟩, ha2, ?_⟩
          have eH : upd (upd (upd H a (.frz od (.dK []))) D (.lst [])) a (.dK []) = upd H D (.lst []) := by
            funext b
            by_cases hb : b = a
            · subst hb; rw [upd_same, upd_ne hne.symm, hA]
            · rw [upd_ne hb]
              by_cases hd : b = D
              · subst hd; rw [upd_same, upd_same]
              · rw [upd_ne hd, upd_ne hb, upd_ne hd]
          rw [eH]
          obtain ⟨W, ⟨m0, w0⟩, W2⟩ := plain (J := ⟨fun _ _ => False, fun _ _ _ _ => False, fun _ _ => True⟩) (dd := []) ⟨fun _ _ => trivial, fun _ _ _ h => (Nat.not_lt_zero _ h).elim, fun _ _ _ _ _ _ _ _ y => y.elim⟩ rfl D hD'
          rcases W2 0 m0 _ w0 with ⟨_, q⟩ | ⟨q, _⟩
          · exact q
          · exact q.elim
        · exact lock q hk (it_keysK upd_same) e2
      · refine .inr ⟨.ref a, hv, a, od, rfl, .inl ⟨ks, A1.same _ _ q, ?_⟩⟩
        exact plain (it_keysK q) e2
    | @dT a ks ds q n t2 =>
      rw [dkeys_T t2] at e2
      rcases q with q | ⟨od, q⟩
      · have hA := A1.same _ _ q
        refine .inl ⟨a, .dT ks, hA, trivial, fun od => ⟨.ref a, hv, a, od, rfl, .inr ⟨ks, upd_same, ?_⟩⟩⟩
        exact lock q n (it_keysT upd_same) e2
      · refine .inr ⟨.ref a, hv, a, od, rfl, .inr ⟨ks, A1.same _ _ q, ?_⟩⟩
        exact plain (it_keysT q) e2
    | dB q n => rw [keyed_no n] at hkd; cases hkd
  | _ => cases e1
theorem re_lcK {elt tg iter : Expr} {ifs : List Expr} {scope : Scope} {own : List (Str × Nat)} {t : MT} {me : ME} (hc : X.calm = true) (hN : X.N.Nodup) (hv : PE X iter (tVar i)) (ok : BlkOk X.N X.env.scope scope own) (hvs : ∀ j ∈ is, j ∈ own.map (·.2))
    (hg : ∀ (s : Shared) (H : Hp) (C : Addr) (cl : List (Str × Addr)) (fp : List Addr), PG (X.blk s H scope (compEnvC scope cl C X.env) fp) tg (tG X.K is g)) (ht : ∀ (s : Shared) (H : Hp) (C : Addr) (cl : List (Str × Addr)) (fp : List Addr), PTs (X.blk s H scope (compEnvC scope cl C X.env) fp) ifs (tT X.K t))
    (he : ∀ (s : Shared) (H : Hp) (C : Addr) (cl : List (Str × Addr)) (fp : List Addr), PE (X.blk s H scope (compEnvC scope cl C X.env) fp) elt (tE X.K me)) (hs : ∀ x, foldedSetIterable iter X.env x = pure x := by intro _; rfl) :
    PE X (.ListComp elt [⟨tg, iter, ifs, 0⟩] scope pos) (tE X.K (eLc (own.map (·.2)) g (iKeysS i) t me)) :=
  have h := pe_lc (pos := pos) hc hN (pi_keys hv) ok hg ht he hs
  pe_imp (pe_or (pe_lock h) h) fun _ _ _ => lcK_to hvs
/-- name = [.. for .. in d ..] -/
theorem rs_setLcK {j : Nat} {y : Str} {py : Pos} {elt tg iter : Expr} {ifs : List Expr} {scope : Scope} {own : List (Str × Nat)} {spos : Pos} {t : MT} {me : ME} (hc : X.calm = true) (hN : X.N.Nodup) (hy : X.N[j]? = some y) (hyl : X.env.scope.names.lookup y = some .local)
    (hsw : swapsWith (.ListComp elt [⟨tg, iter, ifs, 0⟩] scope pos) (some (.Name y py)) spos.line X.env = pure true) (hv : PE X iter (tVar i)) (ok : BlkOk X.N X.env.scope scope own) (hvs : ∀ j ∈ is, j ∈ own.map (·.2))
    (hg : ∀ (s : Shared) (H : Hp) (C : Addr) (cl : List (Str × Addr)) (fp : List Addr), PG (X.blk s H scope (compEnvC scope cl C X.env) fp) tg (tG X.K is g)) (ht : ∀ (s : Shared) (H : Hp) (C : Addr) (cl : List (Str × Addr)) (fp : List Addr), PTs (X.blk s H scope (compEnvC scope cl C X.env) fp) ifs (tT X.K t))
    (he : ∀ (s : Shared) (H : Hp) (C : Addr) (cl : List (Str × Addr)) (fp : List Addr), PE (X.blk s H scope (compEnvC scope cl C X.env) fp) elt (tE X.K me)) (hs : ∀ x, foldedSetIterable iter X.env x = pure x := by intro _; rfl) :
    PS X (.Assign [.Name y py] (.ListComp elt [⟨tg, iter, ifs, 0⟩] scope pos) spos) (tS X.K (sSet j (eLc (own.map (·.2)) g (iKeysS i) t me))) :=
  have h := ps_setLc hc hN hy hyl hsw (pi_keys hv) ok hg ht he hs
  ps_imp (ps_or (ps_lock h) h) fun _ _ _ h => lcK_to hvs (set_to h)
end
/-! steps -/
def kKeys (Pi : MEnv → List PyData → Prop) (e : MEnv) (i : Nat) (x : SV) : Prop := Wp x.view fun d => match d with
  | .dict kvs => keyed kvs = true ∧ Pi (e.set i x.freeze) (dkeys kvs)
  | _ => False
section
variable {e : MEnv} {i : Nat} {kvs : List (PyData × PyData)} {Pi : MEnv → List PyData → Prop}
theorem wi_keys : WI (iKeysS i) e Pi ↔ WX e i (kKeys Pi e i) := by
  unfold WI WX iKeysS kKeys
  rw [wp_bind]
  refine ⟨fun h => h.imp fun x h => ?_, fun h => h.imp fun x h => ?_⟩
  · refine Wp.imp (wp_bind.mp h) fun d h => ?_
    cases d with
    | dict kvs =>
      have h' := wp_guard.mp (show Wp (if keyed kvs = true then some (e.set i x.freeze, dkeys kvs) else none) (fun p => Pi p.1 p.2) from h)
      exact ⟨h'.1, (wp_some.mp h'.2 :)⟩
    | _ => exact (wp_none.mp h).elim
  · refine wp_bind.mpr (Wp.imp h fun d h => ?_)
    cases d with
    | dict kvs =>
      show Wp (if keyed kvs = true then some (e.set i x.freeze, dkeys kvs) else none) (fun p => Pi p.1 p.2)
      exact wp_guard.mpr ⟨h.1, wp_some.mpr h.2⟩
    | _ => exact h.elim
theorem kKeys_fz : kKeys Pi e i (.fz (.dict kvs)) ↔ keyed kvs = true ∧ Pi (e.set i (.fz (.dict kvs))) (dkeys kvs) := wp_some
theorem kKeys_rfz : kKeys Pi e i (.rfz (.dict kvs)) ↔ keyed kvs = true ∧ Pi (e.set i (.rfz (.dict kvs))) (dkeys kvs) := wp_some
theorem kKeys_own : kKeys Pi e i (.own (.dict kvs)) ↔ keyed kvs = true ∧ Pi (e.set i (.fz (.dict kvs))) (dkeys kvs) := wp_some
theorem kKeys_ref : kKeys Pi e i (.ref (.dict kvs)) ↔ keyed kvs = true ∧ Pi (e.set i (.rfz (.dict kvs))) (dkeys kvs) := wp_some
end
end L3

/-! L4R: dicts with truths as keys: d[test] = True, test in d. -/
namespace L3
open PySem PySem.Spec PyProof.Rows L2
def truOf : List (PyData × PyData) → Option (List (Bool × Bool))
  | [] => some []
  | (.bool a, .bool b) :: r => (truOf r).bind fun vs => some ((a, b) :: vs)
  | _ => none
theorem truOf_D : ∀ vs : List (Bool × Bool), truOf (truD vs) = some vs
  | [] => rfl
  | p :: r => by
    show (truOf (truD r)).bind _ = _
    rw [truOf_D r]
    rfl
theorem truOf_some : ∀ {kvs : List (PyData × PyData)} {vs : List (Bool × Bool)}, truOf kvs = some vs → kvs = truD vs
  | [], vs, h => by cases h; rfl
  | p :: r, vs, h => by
    unfold truOf at h
    split at h
    · rename_i e; cases e
    · rename_i a b r' e
      obtain ⟨ws, h1, h2⟩ := bind_some h
      cases h2
      cases e
      rw [truOf_some h1]
      rfl
    · cases h
def putB (vs : List (Bool × Bool)) (k b : Bool) : List (Bool × Bool) := if vs.any (fun p => p.1 = k) then vs.map (fun p => if p.1 = k then (p.1, b) else p) else vs ++ [(k, b)]
theorem putB_ne {vs : List (Bool × Bool)} {k b : Bool} : putB vs k b ≠ [] := by
  unfold putB
  split
  · rename_i h
    intro z
    rw [List.map_eq_nil_iff] at z
    subst z
    cases h
  · simp
theorem bools2 : ∀ {l : List Bool}, l.Nodup → l.length ≤ 2
  | [], _ => by simp
  | [_], _ => by simp
  | [_, _], _ => by simp
  | a :: b :: c :: r, h => by
    simp only [List.nodup_cons, List.mem_cons, not_or] at h
    cases a <;> cases b <;> cases c <;> simp_all
section
variable {P : Program} {w : World} {a : Addr} {vs : List (Bool × Bool)} {h : Heap}
def valB (vs : List (Bool × Bool)) : List (Bool × Value) := vs.map fun p => (p.1, Value.bool p.2)
theorem pairs_b : ∀ {es : List DictEntry} {vs : List (Bool × Bool)}, es.map (fun e => (e.key, e.val)) = vs.map (fun p => (Value.bool p.1, Value.bool p.2)) → Pairs (PpSet.boolK P w) es (valB vs)
  | [], [], _ => .nil
  | [], _ :: _, h => by cases h
  | _ :: _, [], h => by cases h
  | e :: es, p :: vs, h => by
    rw [List.map_cons, List.map_cons] at h
    injection h with h1 h2
    have e1 := congrArg Prod.fst h1
    have e2 := congrArg Prod.snd h1
    dsimp only at e1 e2
    refine .cons ?_ e2 (pairs_b h2)
    rw [e1]
    exact PpSet.boolK_is P w p.1
theorem of_pairs_b : ∀ {es : List DictEntry} {vs : List (Bool × Bool)}, Pairs (PpSet.boolK P w) es (valB vs) → es.map (fun e => (e.key, e.val)) = vs.map (fun p => (Value.bool p.1, Value.bool p.2))
  | [], [], _ => rfl
  | [], _ :: _, h => by cases h
  | _ :: _, [], h => by cases h
  | e :: es, p :: vs, h => by
    cases h with
    | cons h1 h2 t =>
      rw [List.map_cons, List.map_cons, of_pairs_b t, h2, PpSet.isB_shape h1]
theorem bool_to (b : BoolDict a vs h) (P : Program) (w : World) : h.DictOf (PpSet.boolK P w) a (valB vs) := by
  obtain ⟨_, o, es, ep, h1, h2, h3, h4, h5, h6⟩ := b
  refine ⟨o, es, ep, h1, h2, h3, fun e he => ?_, pairs_b h4, ?_⟩
  · obtain ⟨k, q1, q2⟩ := h5 e he
    exact ⟨k, by rw [q1]; exact PpSet.boolK_is P w k, q2⟩
  · have : (valB vs).map (·.1) = vs.map (·.1) := by unfold valB; rw [List.map_map]; rfl
    rw [this]; exact h6
theorem bool_from (hS : (a == sysModules) = false) (d : h.DictOf (PpSet.boolK P w) a (valB vs)) : BoolDict a vs h := by
  obtain ⟨o, es, ep, h1, h2, h3, h4, h5, h6⟩ := d
  refine ⟨hS, o, es, ep, h1, h2, h3, of_pairs_b h5, fun e he => ?_, ?_⟩
  · obtain ⟨k, q1, q2⟩ := h4 e he
    exact ⟨k, PpSet.isB_shape q1, q2⟩
  · have : (valB vs).map (·.1) = vs.map (·.1) := by unfold valB; rw [List.map_map]; rfl
    rw [this] at h6; exact h6
theorem bool_nil {H : Hp} (x : ObjOk P w H h a (.dK [])) : BoolDict a [] h := by
  obtain ⟨_, hS, vs, kv, o, es, ep, h1, h2, h3, h4, h5, h6⟩ := x
  cases kv
  have e0 : es.toList = [] := by
    generalize es.toList = l at h5
    cases h5
    rfl
  refine ⟨hS, o, es, ep, h1, h2, h3, by rw [e0]; rfl, fun e he => ?_, List.nodup_nil⟩
  have : e ∈ es.toList := by simpa using he
  rw [e0] at this
  cases this
theorem bool_stay {h1 h2 : Heap} (b : BoolDict a vs h1) (k : ∀ o, h1.get? a = some o → h2.get? a = some o) : BoolDict a vs h2 := by
  obtain ⟨hS, o, es, ep, g1, r⟩ := b
  exact ⟨hS, o, es, ep, k _ g1, r⟩
theorem bool_obj {H : Hp} (b : BoolDict a vs h) : ObjOk P w H h a (boolO a vs) := by
  have b' := b
  obtain ⟨_, o, _, _, g1, _⟩ := b'
  exact ⟨b, ⟨o, g1⟩, fun _ _ x k => bool_stay x k⟩
theorem stored_b {k b : Bool} : stored (valB vs) k (.bool b) = valB (putB vs k b) := by
  unfold stored putB valB
  have e : (vs.map fun p => (p.1, Value.bool p.2)).any (fun kv => decide (kv.1 = k)) = vs.any fun p => decide (p.1 = k) := by rw [List.any_map]; rfl
  rw [e]
  split
  · rw [List.map_map, List.map_map]
    refine List.map_congr_left fun p _ => ?_
    dsimp only [Function.comp]
    split <;> rfl
  · rw [List.map_append]
    rfl
theorem valueAt_b {k : Bool} : (valueAt (valB vs) k).isSome = vs.any fun p => decide (p.1 = k) := by
  unfold valueAt valB
  induction vs with
  | nil => rfl
  | cons p r ih =>
    rw [List.map_cons, List.find?_cons, List.any_cons]
    by_cases h : p.1 = k
    · simp [h]
    · simp only [h, decide_false]
      simpa using ih
end
/-! ### by data -/
theorem keyD_tru {K : PySem.W.Frag} {F : Hp} {ks : List (Key × V)} {ds : List PyData} {vs : List (Bool × Bool)} (r : RpAll K F (ks.map (·.2)) ds) (h : truOf ((ks.map fun p => keyD p.1).zip ds) = some vs) : ks = [] ∧ vs = [] := by
  cases ks with
  | nil => cases h; exact ⟨rfl, rfl⟩
  | cons p ks =>
    cases r with
    | cons a t =>
      rw [List.map_cons, List.zip_cons_cons] at h
      obtain ⟨p1, p2⟩ := p
      cases p1 <;> cases h
theorem tupD_tru {K : PySem.W.Frag} {F : Hp} {ks : List (List Key × V)} {ds : List PyData} {vs : List (Bool × Bool)} (r : RpAll K F (ks.map (·.2)) ds) (n : ks ≠ []) (h : truOf ((ks.map fun p => PyData.tuple (p.1.map keyD)).zip ds) = some vs) : False := by
  cases ks with
  | nil => exact n rfl
  | cons p ks =>
    cases r with
    | cons a t =>
      rw [List.map_cons, List.zip_cons_cons] at h
      cases h
theorem tru_at {K : PySem.W.Frag} {F H : Hp} {v : V} {kvs : List (PyData × PyData)} {vs : List (Bool × Bool)} (h : Rk K F H v (.dict kvs)) (sm : Same F H) (e : truOf kvs = some vs) :
    ∃ a, v = .ref a ∧ (H a = some (boolO a vs) ∨ (vs = [] ∧ H a = some (.dK []))) := by
  rcases h with h | ⟨a, rfl, h⟩
  · cases h with
    | dK q r =>
      obtain ⟨rfl, rfl⟩ := keyD_tru r e
      exact ⟨_, rfl, .inr ⟨rfl, sm _ _ q.nil⟩⟩
    | dT q n r => exact (tupD_tru r n e).elim
    | dB q n =>
      rw [truOf_D] at e
      cases e
      exact ⟨_, rfl, .inl (sm _ _ q)⟩
  · rcases h with ⟨ks, ds, q, r, z⟩ | ⟨ks, ds, q, r, n, z⟩ | ⟨ws, q, n, z⟩
    · subst z
      obtain ⟨rfl, rfl⟩ := keyD_tru r e
      exact ⟨a, rfl, .inr ⟨rfl, q⟩⟩
    · subst z
      exact (tupD_tru r n e).elim
    · subst z
      rw [truOf_D] at e
      cases e
      exact ⟨a, rfl, .inl q⟩
theorem own_tru_at {K : PySem.W.Frag} {F H : Hp} {a : Addr} {kvs : List (PyData × PyData)} {vs : List (Bool × Bool)} (h : OwnC K F H a (.dict kvs)) (e : truOf kvs = some vs) : H a = some (boolO a vs) ∨ (vs = [] ∧ H a = some (.dK [])) := by
  rcases h with ⟨ks, ds, q, r, z⟩ | ⟨ks, ds, q, r, n, z⟩ | ⟨ws, q, n, z⟩
  · subst z
    obtain ⟨rfl, rfl⟩ := keyD_tru r e
    exact .inr ⟨rfl, q⟩
  · subst z
    exact (tupD_tru r n e).elim
  · subst z
    rw [truOf_D] at e
    cases e
    exact .inl q
def rSetB : TSet := fun o i v H Q => ∃ a vs k b, o = .ref a ∧ i = .bl k ∧ v = .bl b ∧ (H a = some (boolO a vs) ∨ (vs = [] ∧ H a = some (.dK []))) ∧ Q (upd H a (boolO a (putB vs k b)))
/-- d[i] = v of a dict of truths -/
def sSetKeyB (o : Nat) (mi me : ME) : MS := fun env => (me env).bind fun p => (ownK p.1 o).bind fun _ => (mi p.1).bind fun q => match p.2, q.2 with
  | .fz (.bool b), .fz (.bool k) => (ownK q.1 o).bind fun w => (truOf w.2).bind fun vs => some (.nx (q.1.set o (w.1.put (.dict (truD (putB vs k b))))))
  | _, _ => none
section
variable {X : Cx} {oe ie e : Expr} {o : Nat} {mi me : ME} {pos spos apos cpos : Pos}
theorem set_dictB : PSet X rSetB := by
  intro pins s σ H o i v ov iv u Q I ro ri rv h
  obtain ⟨a, vs, k, b, rfl, rfl, rfl, g, q⟩ := h
  cases (show ov = Value.ref a from ro)
  cases (show iv = Value.bool k from ri)
  cases (show u = Value.bool b from rv)
  have hb : BoolDict a vs s.heap ∧ Mut (H a) := by
    rcases g with g | ⟨rfl, g⟩
    · exact ⟨(show ObjOk X.prog X.w H s.heap a (boolO a vs) from I.hok _ _ g).1, by rw [g]; trivial⟩
    · exact ⟨bool_nil (I.hok _ _ g), by rw [g]; trivial⟩
  obtain ⟨hb, mu⟩ := hb
  have hS := hb.1
  have h2 : (valB vs).length ≤ sizeLine := by
    obtain ⟨_, _, _, _, _, _, _, _, _, nd⟩ := hb
    have := bools2 nd
    unfold valB
    rw [List.length_map] at this ⊢
    rw [← lineN_eq]
    show _ ≤ 16777216
    omega
  refine wpAny_setItem_pairs (knd := PpSet.boolK X.prog X.w) (PpSet.boolK_is _ _ k) (bool_to hb X.prog X.w) (fun h' dd hs => ?_) h2
  rw [stored_b] at dd
  have nb := bool_from hS dd
  have nb' := nb
  obtain ⟨_, ob, _, _, g1, _⟩ := nb'
  exact ⟨_, d_write I mu hs ⟨ob, g1⟩ (bool_obj nb), q⟩
theorem setKeyB_to {K : PySem.W.Frag} {D : Ends} {σ : L2.St} {H : Hp} (h : tS K (sSetKeyB o mi me) D σ H) : tAsg (tE K me) (gSub (tVar o) (tE K mi) rSetB) D σ H := by
  obtain ⟨F, env, A, out, em, k⟩ := h
  obtain ⟨⟨env1, r1⟩, e1, em⟩ := bind_some em
  obtain ⟨⟨x0, ds0⟩, e0, em⟩ := bind_some em
  obtain ⟨⟨env2, r2⟩, e2, em⟩ := bind_some em
  split at em
  case h_2 => cases em
  rename_i b kk q1 q2
  obtain ⟨⟨x, kvs⟩, e5, em⟩ := bind_some em
  obtain ⟨vs, e6, em⟩ := bind_some em
  cases em
  have q1 : r1 = .fz (.bool b) := q1
  have q2 : r2 = .fz (.bool kk) := q2
  subst q1 q2
  refine ⟨F, env, A, env1, _, e1, fun v F1 H1 A1 f1 o1 n1 => ?_⟩
  obtain ⟨g1, g2⟩ := ownK_some e0
  obtain ⟨a, ha, _, _⟩ := A1.own (a := 0) g1 g2
  refine ⟨.ref a, ha, F1, env1, A1, env2, _, e2, fun u F2 H2 A2 f2 o2 n2 => ?_⟩
  cases (show Rp K F1 v (.bool b) from o1)
  cases (show Rp K F2 u (.bool kk) from o2)
  obtain ⟨g3, g4⟩ := ownK_some e5
  obtain ⟨a', ha', fa', cx⟩ := A2.own (a := 0) g3 g4
  rw [ha] at ha'
  cases ha'
  obtain ⟨A4, f4⟩ := put_own (d' := .dict (truD (putB vs kk b))) (o := boolO a (putB vs kk b)) A2 g3 g4 ha (.inr (.inr ⟨putB vs kk b, upd_same, putB_ne, rfl⟩))
  exact ⟨a, vs, kk, b, rfl, rfl, rfl, own_tru_at cx e6, k σ F2 _ A4 ((f1.trans f2).trans f4)⟩
theorem rs_setKeyB (ho : PE X oe (tVar o)) (hi : PE X ie (tE X.K mi)) (he : PE X e (tE X.K me)) (ha : ∀ v, assign (.Subscript oe ie spos) X.env v = (do
      let ov ← holding [v] (eval oe X.env)
      let iv ← holding [v, ov] (eval ie X.env)
      standAt spos
      holding [v, ov, iv] (setItem ov iv v)
      release [v, ov, iv] []) := by intro _; rfl) (hs : swapsWithSole [.Subscript oe ie spos] e pos.line X.env = pure false := by rfl) (hw : swappedStores [.Subscript oe ie spos] e X.env = pure none := by rfl)
    (h1 : (assignEach [.Subscript oe ie spos] X.env).map (·.2) = [assign (.Subscript oe ie spos) X.env] := by rfl) : PS X (.Assign [.Subscript oe ie spos] e pos) (tS X.K (sSetKeyB o mi me)) :=
  ps_imp (ps_asg he (pg_sub ho hi set_dictB ha) hs hw h1) fun _ _ _ => setKeyB_to
def inBD (n : Bool) : PyData → PyData → Option RV
  | .bool b, .dict kvs => (truOf kvs).bind fun vs => fzB (n ^^ vs.any fun p => decide (p.1 = b))
  | _, _ => none
theorem in_tru {pins : List (Addr × Obj)} {s : Shared} {σ : L2.St} {H : Hp} {a : Addr} {vs : List (Bool × Bool)} (I : Inv X pins σ H s) (g : H a = some (boolO a vs) ∨ (vs = [] ∧ H a = some (.dK []))) : BoolDict a vs s.heap := by
  rcases g with g | ⟨rfl, g⟩
  · exact (show ObjOk X.prog X.w H s.heap a (boolO a vs) from I.hok _ _ g).1
  · exact bool_nil (I.hok _ _ g)
theorem o_inB : OpR X (compareOp .In) (rOp2 X.K (inBD false)) := by
  intro pins s σ H x y v u Q I rx ry ⟨F, d, e, r, sm, kx, ky, hf, g⟩
  unfold inBD at hf
  split at hf
  case h_2 => cases hf
  rename_i b kvs
  obtain ⟨vs, e1, hf⟩ := bind_some hf
  cases hf
  obtain ⟨a, rfl, h1⟩ := tru_at ky sm e1
  rw [kx.bl] at rx
  cases (show v = Value.bool b from rx)
  cases ry
  have hb := in_tru I h1
  refine wpAny_in_of (knd := PpSet.boolK X.prog X.w) (PpSet.boolK_is _ _ b) hb.1 (bool_to hb X.prog X.w).mapOf ?_
  rw [valueAt_b]
  refine ⟨.bl _, H, I.tok _, rfl, ?_⟩
  have := g.flat sm (.bl _)
  rwa [Bool.false_xor] at this
theorem o_notInB : OpR X (compareOp .NotIn) (rOp2 X.K (inBD true)) := by
  intro pins s σ H x y v u Q I rx ry ⟨F, d, e, r, sm, kx, ky, hf, g⟩
  unfold inBD at hf
  split at hf
  case h_2 => cases hf
  rename_i b kvs
  obtain ⟨vs, e1, hf⟩ := bind_some hf
  cases hf
  obtain ⟨a, rfl, h1⟩ := tru_at ky sm e1
  rw [kx.bl] at rx
  cases (show v = Value.bool b from rx)
  cases ry
  have hb := in_tru I h1
  refine wpAny_notIn_of (knd := PpSet.boolK X.prog X.w) (PpSet.boolK_is _ _ b) hb.1 (bool_to hb X.prog X.w).mapOf ?_
  rw [valueAt_b]
  refine ⟨.bl _, H, I.tok _, rfl, ?_⟩
  have := g.flat sm (.bl _)
  rwa [Bool.true_xor] at this
end
/-! steps -/
section
variable {e : MEnv} {o : Nat} {mi me : ME} {P : Out → Prop} {r : RV} {b k : Bool} {x : SV} {vs : List (Bool × Bool)} {n : Bool}
def kSB4 (o : Nat) (k b : Bool) (P : Out → Prop) (e : MEnv) (w : SV × List (PyData × PyData)) : Prop := ∃ vs, truOf w.2 = some vs ∧ P (.nx (e.set o (w.1.put (.dict (truD (putB vs k b))))))
def kSB3 (o : Nat) (r : RV) (P : Out → Prop) (e : MEnv) (q : RV) : Prop := match r, q with
  | .fz (.bool b), .fz (.bool k) => WK e o (kSB4 o k b P e)
  | _, _ => False
def kSB2 (o : Nat) (mi : ME) (r : RV) (P : Out → Prop) (e : MEnv) (w : SV × List (PyData × PyData)) : Prop := WE mi e (kSB3 o r P)
def kSB1 (o : Nat) (mi : ME) (P : Out → Prop) (e : MEnv) (r : RV) : Prop := WK e o (kSB2 o mi r P e)
theorem ws_setKeyB : WS (sSetKeyB o mi me) e P ↔ WE me e (kSB1 o mi P) := by
  simp only [WS, WE, WK, sSetKeyB, kSB1, kSB2, wp_bind]
  refine ⟨fun h => h.imp fun p h => h.imp fun w h => h.imp fun q h => ?_, fun h => h.imp fun p h => Wp.imp h fun w h => Wp.imp h fun q h => ?_⟩
  · split at h
    · rename_i b k q1 q2
      rw [q1, q2]
      refine (wp_bind.mp h).imp fun w h => ?_
      obtain ⟨vs, h1, h2⟩ := wp_bind.mp h
      exact ⟨vs, h1, (wp_some.mp h2 :)⟩
    · exact (wp_none.mp h).elim
  · unfold kSB3 at h
    split at h
    · rename_i b k q1 q2
      refine wp_bind.mpr (Wp.imp h fun w h => ?_)
      obtain ⟨vs, h1, h2⟩ := h
      exact wp_bind.mpr ⟨vs, h1, wp_some.mpr h2⟩
    · exact h.elim
theorem kSB1_eq : kSB1 o mi P e r ↔ WK e o (kSB2 o mi r P e) := Iff.rfl
theorem kSB2_eq {w : SV × List (PyData × PyData)} : kSB2 o mi r P e w ↔ WE mi e (kSB3 o r P) := Iff.rfl
theorem kSB3_eq : kSB3 o (.fz (.bool b)) P e (.fz (.bool k)) ↔ WK e o (kSB4 o k b P e) := Iff.rfl
theorem kSB4_eq : kSB4 o k b P e (x, truD vs) ↔ P (.nx (e.set o (x.put (.dict (truD (putB vs k b)))))) := ⟨fun ⟨ws, h1, h2⟩ => by
  have h1 : truOf (truD vs) = some ws := h1
  rw [truOf_D] at h1; cases h1; exact h2, fun h => ⟨vs, truOf_D vs, h⟩⟩
theorem kSB4_0 : kSB4 o k b P e (x, []) ↔ P (.nx (e.set o (x.put (.dict (truD (putB [] k b)))))) := kSB4_eq (vs := [])
theorem inBD_eq : inBD n (.bool b) (.dict (truD vs)) = some (.fz (.bool (n ^^ vs.any fun p => decide (p.1 = b)))) := by
  unfold inBD
  dsimp only
  rw [truOf_D]
  rfl
end
end L3

/-! L4S: sorted(d), data less than data, tables of the top by a subscript. -/
namespace L3
open PySem PySem.Spec PyProof.Rows L2
section
variable {prog : Program} {w : World} {A : Around} {E : Value → Shared → Prop} {s : Shared} {T : String} {r d : Addr} {n : Nat} {P : Nat → Value → Prop} {OK : Heap → Prop}
/-- the things of an iterable, put into a list -/
theorem collectK {R : List Value → Shared → Prop} (K : PySem.W.KdlSrc prog w T r d n P OK) (hh : A.handled = none) (hok : OK s.heap) (hn : n ≤ sizeLine)
    (h : ∀ (h' : Heap) (tk : Nat) (vs : List Value), (∀ b o, s.heap.get? b = some o → h'.get? b = some o) → s.heap.objs.size < h'.objs.size → vs.length = n → (∀ j v, vs[j]? = some v → P j v) → R vs { s with heap := h', toks := tk }) :
    wpAny (model prog w) A (collect (.ref r)) R E s := by
  have hlt := K.there _ hok
  unfold collect
  refine wpAny_bind (wpAny_runValue (codeAny_builtin F.entry_proto_collect ?_))
  rw [Around.under_plainId F.plain_proto_collect _]
  show wpAny _ A.in1 (newList [] >>= fun l => again (.builtin "list.__iadd__" ⟨[l, .ref r], []⟩)) _ _ s
  refine wpAny_bind (wpAny_newObj_type ?_)
  refine wpAny_pure ⟨plainId_quiet PySem.F.plain_list_iadd _, codeAny_builtin F.entry_list_iadd ?_⟩
  rw [Around.under_plainId PySem.F.plain_list_iadd _]
  have hS₁ : (s.heap.push { cls := .type "list", data := .seq ([] : List Value).toArray }).get? s.heap.objs.size = some { cls := .type "list", data := .seq #[] } := Heap.get?_push_size _ rfl
  show wpAny _ A.in1 (Builtin.List.listExtendWith (.ref s.heap.objs.size) (.ref r) (.ref s.heap.objs.size)) _ _ _
  have hok₁ : OK (s.heap.push { cls := .type "list", data := .seq ([] : List Value).toArray }) := K.keep _ _ hok fun b _ o e => Heap.get?_push_of_some _ e
  have key := PySem.W.kdl_extend (A := A) (s := { s with heap := s.heap.push { cls := .type "list", data := .seq ([] : List Value).toArray } })
    (R := fun (q : Result) (s' : Shared) => ∃ (h' : Heap) (tk : Nat) (acc' : Array Value) (c' : Nat), q = .ok (.ret (.ref s.heap.objs.size)) ∧ s' = { s with heap := h', toks := tk } ∧
      (∀ b o, s.heap.get? b = some o → h'.get? b = some o) ∧ h'.get? s.heap.objs.size = some { cls := .type "list", dict := none, data := .seq acc' c', slots := #[] } ∧ ItemsOf P acc' n)
    K hh hok₁ s.heap.objs.size (Nat.ne_of_gt hlt.1) (Nat.ne_of_gt hlt.2) (.ref s.heap.objs.size) 0 hS₁
    (fun h' tk acc' c' hk hS' hacc => ⟨h', tk, acc', c', rfl, rfl, fun b o e => hk b o (Nat.ne_of_lt (Heap.lt_size e)) (Heap.get?_push_of_some _ e), hS', hacc⟩) hn
  refine wpAny_mono key (fun fin s' x => ?_) fun e s' x => ?_
  · cases fin with
    | done f =>
      obtain ⟨h', tk, acc', c', e, rfl, hk, hS', hacc⟩ := x
      cases e
      show wpAny _ A (load s.heap.objs.size >>= _) _ _ _
      refine wpAny_bind (wpAny_load hS' ?_)
      refine wpAny_pure ?_
      exact h h' tk acc'.toList hk (Heap.lt_size hS') (by rw [Array.length_toList]; exact hacc.1) fun j v q => hacc.2 j v (by simpa using q)
    | again c₁ =>
      refine ⟨x.1, codeAny_mono x.2 fun q s₂ y => ?_⟩
      obtain ⟨h', tk, acc', c', rfl, rfl, hk, hS', hacc⟩ := y
      show wpAny _ A (load s.heap.objs.size >>= _) _ _ _
      refine wpAny_bind (wpAny_load hS' ?_)
      refine wpAny_pure ?_
      exact h h' tk acc'.toList hk (Heap.lt_size hS') (by rw [Array.length_toList]; exact hacc.1) fun j v q => hacc.2 j v (by simpa using q)
  · obtain ⟨_, _, _, _, e', _⟩ := x
    cases e'
/-- sorted(d), up to the sort of the list -/
theorem sortedK {Q : Value → Shared → Prop} (K : PySem.W.KdlSrc prog w T r d n P OK) (hh : A.handled = none) (hok : OK s.heap) (hn : n ≤ sizeLine)
    (h : ∀ (h' : Heap) (tk : Nat) (vs : List Value), (∀ b o, s.heap.get? b = some o → h'.get? b = some o) → s.heap.objs.size < h'.objs.size → vs.length = n → (∀ j v, vs[j]? = some v → P j v) →
      wpAny (model prog w) A.in1 (call (.builtin "list.sort") [.ref h'.objs.size]) (fun _ s' => Q (.ref h'.objs.size) s') E { s with heap := h'.push (seqObj "list" vs.toArray 0), toks := tk }) :
    wpAny (model prog w) A (call (.builtin "sorted") [.ref r]) Q E s := by
  refine Calls.call_function_entry kind_sorted plain_sorted entry_sorted (args_sorted1 _) ?_
  unfold Builtin.«sorted»
  refine wpAny_bind (m := checkCount "sorted" 1 1 _) (wpAny_pure ?_)
  refine wpAny_bind (collectK (A := A.in1) K hh hok hn fun h' tk vs hk hlt hl hG => ?_)
  refine wpAny_bind (wpAny_newList ?_ (by rw [hl]; exact hn))
  have hg := h h' tk vs hk hlt hl hG
  refine wpAny_bind (wpAny_holding (wpAny_mono hg (fun _ s' x => ?_) fun _ _ e => e))
  exact wpAny_pure ⟨_, rfl, x⟩
end
/-- F with all tuples of H -/
def withTups (F H : Hp) : Hp := fun b => match H b with
  | some (.tup xs) => some (.tup xs)
  | _ => F b
theorem withTups_tup {F H : Hp} {b : Addr} {xs : List V} (h : H b = some (.tup xs)) : withTups F H b = some (.tup xs) := by unfold withTups; rw [h]
theorem withTups_sub {F H : Hp} (sm : Same F H) : Same F (withTups F H) := fun b o q => by
  unfold withTups
  rw [sm b o q]
  cases o <;> first | rfl | exact q
theorem withTups_le {F H : Hp} (sm : Same F H) : Same (withTups F H) H := fun b o q => by
  unfold withTups at q
  split at q
  · rename_i xs e
    cases q
    exact e
  · exact sm b o q
theorem withTups_new {F H : Hp} {b : Addr} {o : HO} (q : withTups F H b = some o) : F b = some o ∨ Lo H b := by
  unfold withTups at q
  split at q
  · rename_i xs e
    exact .inr (Lo.tup e)
  · exact .inl q
theorem withTups_free {F H : Hp} {p : Addr} (sm : Same F H) (h : H p = none) : withTups F H p = none := by
  unfold withTups
  rw [h]
  exact sm.free h
def sortedKD : List PyData → Option RV
  | [.dict kvs] => if keyed kvs = true ∧ canSort (dkeys kvs) = true then some (.own (.list (sortD (dkeys kvs)))) else none
  | _ => none
theorem keys0 {h : Heap} : ∀ (ks : List Key) (us : List Value), Vals (ks.map kV) us → ReadsAll h us (ks.map keyD) []
  | [], _, r => by cases r; exact .nil
  | k :: ks, _, r => by
    cases r with
    | cons a t =>
      have q := keys0 (h := h) ks _ t
      cases k with
      | inl i => obtain ⟨tk, rfl⟩ := a; exact .cons (as := []) (.int i tk) q
      | inr x => obtain ⟨tk, rfl⟩ := a; exact .cons (as := []) (.str x tk) q
section
variable {X : Cx} {pins : List (Addr × Obj)} {σ : L2.St} {H : Hp} {s : Shared}
theorem tkey0 (I : Inv X pins σ H s) {k : List Key} {q : Addr} (e : H q = some (.tup (k.map kV))) : Reads s.heap (.ref q) (PyData.tuple (k.map keyD)) [] := by
  obtain ⟨its, rv, ⟨o, e, c, m, d⟩, _⟩ := I.tuple (SqT.of e)
  exact .tuple e c d (by simpa using keys0 (h := s.heap) _ _ rv)
/-- what a dict's keys are: values, and how they read -/
theorem dict_keys (I : Inv X pins σ H s) {F : Hp} (sm : Same F H) {v : V} {kvs : List (PyData × PyData)} (h : Rk X.K F H v (.dict kvs)) (hk : keyed kvs = true) :
    ∃ a o es ep, v = .ref a ∧ (a == sysModules) = false ∧ s.heap.get? a = some o ∧ o.ExactDict ∧ o.data = .dict es ep ∧ es.size = (dkeys kvs).length ∧ es.size ≤ sizeLine ∧
      ∀ (j : Nat) (en : DictEntry), es[j]? = some en → ∃ kd x, (dkeys kvs)[j]? = some kd ∧ RelV x en.key ∧ Rp X.K (withTups F H) x kd ∧ ∀ h', (∀ b o, s.heap.get? b = some o → h'.get? b = some o) → Reads h' en.key kd [] := by
  have keep : ∀ {h' : Heap} {kd : PyData} {u : Value}, (∀ b o, s.heap.get? b = some o → h'.get? b = some o) → Reads s.heap u kd [] → Reads h' u kd [] := fun k r => PyProof.Rows.Reads.keeps k r
  have dk : ∀ (a : Addr) (ks : List (Key × V)) (ds : List PyData), Rd H a (.dK ks) → RpAll X.K F (ks.map (·.2)) ds → dkeys ((ks.map fun p => keyD p.1).zip ds) = ks.map fun p => keyD p.1 := fun a ks ds _ r => dkeys_K r
  have KK : ∀ (a : Addr) (ks : List (Key × V)) (ds : List PyData), Rd H a (.dK ks) → RpAll X.K F (ks.map (·.2)) ds → ∃ a' o es ep, V.ref a = .ref a' ∧ (a' == sysModules) = false ∧ s.heap.get? a' = some o ∧ o.ExactDict ∧ o.data = .dict es ep ∧ es.size = (dkeys ((ks.map fun p => keyD p.1).zip ds)).length ∧ es.size ≤ sizeLine ∧
      ∀ (j : Nat) (en : DictEntry), es[j]? = some en → ∃ kd x, (dkeys ((ks.map fun p => keyD p.1).zip ds))[j]? = some kd ∧ RelV x en.key ∧ Rp X.K (withTups F H) x kd ∧ ∀ h', (∀ b o, s.heap.get? b = some o → h'.get? b = some o) → Reads h' en.key kd [] := fun a ks ds q r => by
    rw [dkeys_K r]
    obtain ⟨hz, hS, vs, kv, o, es, ep, e, c, dd, _, pr, _⟩ := (show ObjOk X.prog X.w H s.heap a (.dK ks) from q.ok I.hok)
    obtain ⟨vv, ke⟩ := kv_vals kv
    have hlen : es.size = ks.length := by
      have := pr.length
      rw [Array.length_toList] at this
      rw [this, ← List.length_map (f := (·.1)), ke, List.length_map]
    refine ⟨a, o, es, ep, rfl, hS, e, c, dd, by rw [hlen, List.length_map], by rw [hlen]; exact hz, fun j en hj => ?_⟩
    have hj' : es.toList[j]? = some en := by simpa using hj
    have pk : ∀ {es : List DictEntry} {vs : List (Key × Value)}, Pairs (mixKind X.prog X.w) es vs → ∀ (j : Nat) (en : DictEntry), es[j]? = some en → ∃ kv, vs[j]? = some kv ∧ (mixKind X.prog X.w).is kv.1 en.key = true := by
      intro es vs h
      induction h with
      | nil => intro j en h; simp at h
      | cons h1 h2 t ih =>
        intro j en h
        cases j with
        | zero => simp at h; subst h; exact ⟨_, rfl, h1⟩
        | succ j => obtain ⟨kv, q1, q2⟩ := ih j en (by simpa using h); exact ⟨kv, by simpa using q1, q2⟩
    obtain ⟨kv, q1, q2⟩ := pk pr j en hj'
    have q3 : (ks.map (·.1))[j]? = some kv.1 := by rw [← ke, List.getElem?_map, q1]; rfl
    have q4 : (ks.map fun p => keyD p.1)[j]? = some (keyD kv.1) := by
      have : (ks.map fun p => keyD p.1) = (ks.map (·.1)).map keyD := by rw [List.map_map]; rfl
      rw [this, List.getElem?_map, q3]
      rfl
    rcases keyIs_shape q2 with ⟨i, tk, e1, e2⟩ | ⟨x, tk, e1, e2⟩
    · refine ⟨keyD kv.1, kV kv.1, q4, ?_, rp_keyD _, fun h' _ => ?_⟩
      · rw [e1, e2]; exact ⟨tk, rfl⟩
      · rw [e1, e2]; exact .int i tk
    · refine ⟨keyD kv.1, kV kv.1, q4, ?_, rp_keyD _, fun h' _ => ?_⟩
      · rw [e1, e2]; exact ⟨tk, rfl⟩
      · rw [e1, e2]; exact .str x tk
  have TT : ∀ (a : Addr) (ks : List (List Key × V)) (ds : List PyData), Rd H a (.dT ks) → RpAll X.K F (ks.map (·.2)) ds → ∃ a' o es ep, V.ref a = .ref a' ∧ (a' == sysModules) = false ∧ s.heap.get? a' = some o ∧ o.ExactDict ∧ o.data = .dict es ep ∧ es.size = (dkeys ((ks.map fun p => PyData.tuple (p.1.map keyD)).zip ds)).length ∧ es.size ≤ sizeLine ∧
      ∀ (j : Nat) (en : DictEntry), es[j]? = some en → ∃ kd x, (dkeys ((ks.map fun p => PyData.tuple (p.1.map keyD)).zip ds))[j]? = some kd ∧ RelV x en.key ∧ Rp X.K (withTups F H) x kd ∧ ∀ h', (∀ b o, s.heap.get? b = some o → h'.get? b = some o) → Reads h' en.key kd [] := fun a ks ds q r => by
    rw [dkeys_T r]
    obtain ⟨hz, hS, xs, pr, o, es, ep, e, c, dd, ee, _⟩ := (show ObjOk X.prog X.w H s.heap a (.dT ks) from q.ok I.hok)
    have hlen : es.size = ks.length := by
      have := congrArg List.length ee
      rw [Array.length_toList, List.length_map] at this
      rw [this, ← Paired.length pr]
    refine ⟨a, o, es, ep, rfl, hS, e, c, dd, by rw [hlen, List.length_map], by rw [hlen]; exact hz, fun j en hj => ?_⟩
    have hj' : es.toList[j]? = some en := by simpa using hj
    rw [ee, List.getElem?_map] at hj'
    obtain ⟨x, hx, rfl⟩ := Option.map_eq_some_iff.mp hj'
    have pk : ∀ {ks : List (List Key × V)} {xs : List (List Key × Addr × Value)}, Paired (fun (p : List Key × V) (q : List Key × Addr × Value) => p.1 = q.1 ∧ H q.2.1 = some (.tup (p.1.map kV)) ∧ RelV p.2 q.2.2) ks xs → ∀ (j : Nat) (x : List Key × Addr × Value), xs[j]? = some x → ∃ p, ks[j]? = some p ∧ H x.2.1 = some (.tup (p.1.map kV)) := by
      intro ks xs h
      induction h with
      | nil => intro j x h; simp at h
      | cons h1 t ih =>
        intro j x h
        cases j with
        | zero => simp at h; subst h; exact ⟨_, rfl, h1.2.1⟩
        | succ j => obtain ⟨kv, q1, q2⟩ := ih j x (by simpa using h); exact ⟨kv, by simpa using q1, q2⟩
    obtain ⟨p, q1, q2⟩ := pk pr j x hx
    refine ⟨PyData.tuple (p.1.map keyD), .ref x.2.1, by rw [List.getElem?_map, q1]; rfl, rfl, .tup (withTups_tup q2) (rp_keyDs _), fun h' k => keep k (tkey0 I q2)⟩
  rcases h with h | ⟨a, rfl, h⟩
  · cases h with
    | dK q r => exact KK _ _ _ (rd_mono sm q.rd) r
    | dT q n r => exact TT _ _ _ (rd_mono sm q) r
    | dB q n => rw [keyed_no n] at hk; cases hk
  · rcases h with ⟨ks, ds, q, r, z⟩ | ⟨ks, ds, q, r, n, z⟩ | ⟨vs, q, n, z⟩
    · subst z; exact KK _ _ _ (.inl q) r
    · subst z; exact TT _ _ _ (.inl q) r
    · subst z; rw [keyed_no n] at hk; cases hk
end
section
variable {X : Cx} {k : Nat}
theorem c_sortedK (hr : RoomG k X.A) : CallR X (.builtin "sorted") (rCall X.K sortedKD) := by
  intro pins s σ H xs us Q I r ⟨F, ds, rv, sm, kx, hf, g⟩
  unfold sortedKD at hf
  split at hf
  case h_2 => cases hf
  rename_i kvs
  split at hf
  case isFalse => cases hf
  rename_i hc
  cases hf
  obtain ⟨h1, h2, h3⟩ := can_sort hc.2
  obtain ⟨v, rfl, rk⟩ := rk1 kx
  obtain ⟨u, rfl, ru⟩ := vals1 r
  obtain ⟨a, o, es, ep, rfl, hS, e, c, dd, hlen, hz, hk⟩ := dict_keys I sm rk hc.1
  cases ru
  have hu := hr.units
  have hh : X.A.handled = none := hr.r.hd
  refine sortedK (kdl_raw (o := o) hS c dd) hh e hz fun h' tk vs hkeep hlt hl hP => ?_
  have em : (dkeys kvs).map (fun d => d) = dkeys kvs := List.map_id' _
  have hvl : vs.length = (dkeys kvs).length := by rw [hl, hlen]
  have each : ∀ {R : Value → PyData → Prop}, (∀ (j : Nat) (u : Value) (kd : PyData), vs[j]? = some u → (dkeys kvs)[j]? = some kd → R u kd) → PySem.W.EachIs R vs (dkeys kvs) := fun {R} hR => by
    clear hk hP hl hlen h1 h2 h3 hc g rk em
    generalize dkeys kvs = L at *
    induction vs generalizing L with
    | nil =>
      cases L with
      | nil => exact .nil
      | cons x L => simp at hvl
    | cons u vs ih =>
      cases L with
      | nil => simp at hvl
      | cons x L =>
        refine .cons (hR 0 u x rfl rfl) (ih L (by simpa using hvl) fun j u' kd q1 q2 => hR (j + 1) u' kd (by simpa using q1) (by simpa using q2))
  have fact : ∀ (j : Nat) (u : Value) (kd : PyData), vs[j]? = some u → (dkeys kvs)[j]? = some kd → (∃ x, RelV x u ∧ Rp X.K (withTups F H) x kd) ∧ Reads h' u kd [] := fun j u kd q1 q2 => by
    obtain ⟨en, p1, p2⟩ := hP j u q1
    obtain ⟨kd', x, p3, p4, p5, p6⟩ := hk j en p1
    rw [q2] at p3
    cases p3
    subst p2
    exact ⟨⟨x, p4, p5⟩, p6 h' hkeep⟩
  have hoL : (h'.push (seqObj "list" vs.toArray 0)).get? h'.objs.size = some (seqObj "list" vs.toArray 0) := Heap.get?_push_size _ rfl
  refine PySem.W.list_sort_data (A := X.A.in1) (s := { s with heap := h'.push (seqObj "list" vs.toArray 0), toks := tk }) (enc := fun d => d) (bs := dkeys kvs) (R := fun u kd => ∃ x, RelV x u ∧ Rp X.K (withTups F H) x kd) hoL
    (each fun j u kd q1 q2 => (fact j u kd q1 q2).1) (each fun j u kd q1 q2 => ⟨[], PyProof.Rows.Reads.keeps (fun _ _ q => Heap.get?_push_of_some _ q) (fact j u kd q1 q2).2, by simp⟩) (by rw [em]; exact h1) (by rw [em]; exact h2) (by rw [← hlen]; exact hz) (fun d hd => ?_) fun out hol ho => ?_
  · have := h3 d hd
    have e1 : X.A.in1.units ≤ X.A.units + 1 := Nat.le_refl _
    show X.A.in1.units + 1 + d.depth < cLine
    omega
  · obtain ⟨ws, w1, w2⟩ := rp_each ho
    obtain ⟨ep', he'⟩ := PyProof.Rows.sortedHeap_at (vs := vs) (out := out.toArray) hoL
    have hw : ws.length ≤ sizeLine := by rw [w1.length, hol, ← hlen]; exact hz
    have hp : H h'.objs.size = none := I.hok.fresh (by omega)
    have sH : Same H (upd H h'.objs.size (.lst ws)) := fun b o q => by rw [upd_ne (ne_of_none q hp)]; exact q
    have kp : ∀ b o, s.heap.get? b = some o → (PyProof.Rows.sortedHeap (h'.push (seqObj "list" vs.toArray 0)) h'.objs.size vs out.toArray).get? b = some o := fun b o q => by
      have q1 := hkeep b o q
      have q2 := Heap.lt_size q1
      rw [PyProof.Rows.sortedHeap_old (Nat.ne_of_lt q2) (by rw [size_push']; exact Nat.lt_succ_of_lt q2)]
      exact Heap.get?_push_of_some _ q1
    refine ⟨.ref h'.objs.size, upd H h'.objs.size (.lst ws), I.laid (t' := tk) kp (by omega) ⟨hw, out, ep', w1, by simpa using he'⟩, rfl, ?_⟩
    exact g (.ref h'.objs.size) (withTups F H) _ (withTups_sub sm) sH ((withTups_le sm).trans sH) (fun b o q => withTups_new q) ⟨_, rfl, hp, withTups_free sm hp, ws, upd_same, w2⟩
end
/-! ### data less than data -/
def ltAD : PyData → PyData → Option RV := fun d e => if PySem.W.alike d e = true ∧ isNone d = false ∧ d.depth ≤ 50 then fzB (PySem.W.dataLt d e) else none
section
variable {X : Cx} {k : Nat}
theorem o_ltA (hr : RoomG k X.A) : OpR X (compareOp .Lt) (rOp2 X.K ltAD) := by
  intro pins s σ H x y v u Q I rx ry ⟨F, d, e, r, sm, kx, ky, hf, g⟩
  unfold ltAD at hf
  split at hf
  case isFalse => cases hf
  rename_i hc
  cases hf
  obtain ⟨as, r1, _⟩ := rp_reads I (kx.rp sm) rx
  obtain ⟨bs, r2, _⟩ := rp_reads I (ky.rp sm) ry
  have hu := hr.units
  refine PySem.W.lt_data r1 r2 hc.1 (fun z => by rw [z] at hc; cases hc.2.1) (by have := hc.2.2; omega) ?_
  exact ⟨.bl _, H, I, rfl, g.flat sm (.bl _)⟩
end
/-! ### D[e], D a table of the top -/
def eKIx (kvs : List (Str × Int)) (mk : ME) : ME := fun env => (mk env).bind fun q => (q.2.view q.1).bind fun kd => match kd with
  | .str z => (kvs.lookup z).bind fun j => some (q.1, .fz (.int j))
  | _ => none
section
variable {X : Cx} {x : Str} {e : Expr} {p pos : Pos} {mk : ME} {kvs : List (Str × Int)}
theorem pe_kix {d : Addr} {ty : TE} (hg : Gl X x) (hm : X.mg x = some (.ref d)) (T : TabK X.K X.w d kvs) (he : PE X e ty) (hs : NoSl e) (hdb : (x == ("__debug__" : Str)) = false := by decide) :
    PE X (.Subscript (.Name x p) e pos) (fun σ H Q => ty σ H fun y H1 => ∃ z j, y = .str z ∧ kvs.lookup z = some j ∧ Q (.int j) H1) := by
  obtain ⟨es, n, D, ev⟩ := T.ex
  refine ⟨fun pins s σ H Q I h => ?_⟩
  refine subD_of PySem.F.slot_dict_getitem.lookup hs (ld_glob I hg hm (thn (he.run pins s σ H _ I h) fun iv s2 ⟨y, H2, I2, ry, z, j, ey, ej, q2⟩ => ?_) hdb)
  subst ey
  obtain ⟨t, rfl⟩ := (show ∃ t, iv = Value.str z t from ry)
  have mo := PySem.W.mapOf_K (prog := X.prog) (w := X.w) I2.kIn D.at_ D.lit
  have tf := tab_find (l := es.toList) ev z
  rw [Array.toArray_toList] at tf
  rcases tf with ⟨t3, i, e1, e2⟩ | ⟨e1, e2⟩
  · rw [ej] at e1
    cases e1
    exact ⟨mo.typeIs, wpAny_getItem_of (PySem.strKind_is X.prog X.w z t) mo e2 ⟨.int j, H2, I2.tok _, ⟨t3, rfl⟩, q2⟩⟩
  · rw [ej] at e1
    cases e1
theorem re_kix (hg : Gl X x) (T : ∃ d, X.mg x = some (.ref d) ∧ TabK X.K X.w d kvs) (he : PE X e (tE X.K mk)) (hs : NoSl e) (hdb : (x == ("__debug__" : Str)) = false := by decide) :
    PE X (.Subscript (.Name x p) e pos) (tE X.K (eKIx kvs mk)) := by
  obtain ⟨d, hm, T⟩ := T
  refine pe_imp (pe_kix hg hm T he hs hdb) fun σ H Q ⟨F, env, A, env', r, em, k⟩ => ?_
  obtain ⟨⟨env1, r1⟩, e1, em⟩ := bind_some em
  obtain ⟨kd, e3, em⟩ := bind_some em
  cases kd with
  | str z =>
    obtain ⟨j, ej, em⟩ := bind_some em
    cases em
    refine ⟨F, env, A, env1, r1, e1, fun v F1 H1 A1 f1 o1 n1 => ?_⟩
    exact ⟨z, j, (RV.ok.rk o1 A1 e3).str, ej, k _ F1 H1 A1 f1 (.int _) trivial⟩
  | _ => cases em
end
/-! steps -/
section
variable {e : MEnv} {mk : ME} {kvs : List (Str × Int)} {P : MEnv → RV → Prop} {r : RV} {z : Str} {d d2 : PyData} {D : List (PyData × PyData)}
def kKI2 (kvs : List (Str × Int)) (P : MEnv → RV → Prop) (e : MEnv) : PyData → Prop
  | .str z => Wp (kvs.lookup z) fun j => P e (.fz (.int j))
  | _ => False
def kKI1 (kvs : List (Str × Int)) (P : MEnv → RV → Prop) (e : MEnv) (r : RV) : Prop := WV r e (kKI2 kvs P e)
theorem we_kix : WE (eKIx kvs mk) e P ↔ WE mk e (kKI1 kvs P) := by
  simp only [WE, WV, eKIx, kKI1, wp_bind]
  refine ⟨fun h => h.imp fun p h => h.imp fun d h => ?_, fun h => h.imp fun p h => Wp.imp h fun d h => ?_⟩
  · cases d with
    | str z => exact (wp_bind.mp (show Wp ((kvs.lookup z).bind fun j => some (p.1, RV.fz (.int j))) (fun p => P p.1 p.2) from h)).imp fun j h => (wp_some.mp h :)
    | _ => exact (wp_none.mp h).elim
  · cases d with
    | str z =>
      show Wp ((kvs.lookup z).bind fun j => some (p.1, RV.fz (.int j))) (fun p => P p.1 p.2)
      exact wp_bind.mpr (Wp.imp h fun j h => wp_some.mpr h)
    | _ => exact h.elim
theorem kKI1_eq : kKI1 kvs P e r ↔ WV r e (kKI2 kvs P e) := Iff.rfl
theorem kKI2_s : kKI2 kvs P e (.str z) ↔ Wp (kvs.lookup z) fun j => P e (.fz (.int j)) := Iff.rfl
end
end L3

namespace G_k19
open PySem PyProof.Rows L2 L3
def b_place_of : MS := (sRet (eTup (aCons (eOp2 ixD (eSlot 0) (eLit (.int 1))) (aCons (eKIx [("land", 0), ("drop", 0), ("free", 1), ("spot", 2)] (eOp2 ixD (eSlot 0) (eLit (.int 0)))) (aCons (eOp2 ixD (eSlot 0) (eLit (.int 2))) aNil)))))
def c_place_of : CF := runF 1 1 b_place_of
def b_in_order : MS := (sSeq (sSet 1 (eDict []))
 (sSeq (sFor (gSlot 2) (iAny (eSlot 0))
 (sSeq (sSet 3 (eUser c_place_of (aCons (eSlot 2) aNil)))
 (sIf (mOr (asT (eOp2 notInD (eSlot 3) (eSlot 1))) (asT (eOp2 ltAD (eSlot 2) (eOp2 ixD (eSlot 1) (eSlot 3)))))
 (sSetKeyT 1 (eSlot 3) (eSlot 2))
 sSkip)))
 (sRet (eLc [3] (gSlot 3) (iAny (eCall sortedKD (aCons (eSlot 1) aNil))) mYes (eOp2 ixD (eSlot 1) (eSlot 3))))))
def c_in_order : CF := runF 1 4 b_in_order
def b_law_take : MS := (sSeq (sIf (asT (eOp2 gtD (eOp2 ixD (eSlot 0) (eLit (.int 2))) (eLit (.int 0))))
 (sSeq (sSet 2 (eOp2 modD (eOp2 ixD (eSlot 0) (eLit (.int 2))) (eSlot 1)))
 (sSeq (sSetIx 0 (eLit (.int 2)) (eOp2 divD (eOp2 ixD (eSlot 0) (eLit (.int 2))) (eSlot 1)))
 (sRet (eSlot 2))))
 sSkip)
 (sSeq (sSet 3 (eOp2 ixD (eSlot 0) (eLit (.int 1))))
 (sSeq (sSetIx 0 (eLit (.int 1)) (eOp2 addD (eSlot 3) (eLit (.int 1))))
 (sSeq (sSet 4 (eLit (.int 0)))
 (sSeq (sIf (asT (eOp2 gtD (eCall lenD (aCons (eOp2 ixD (eSlot 0) (eLit (.int 0))) aNil)) (eLit (.int 0))))
 (sSet 4 (eOp2 ixD (eOp2 ixD (eSlot 0) (eLit (.int 0))) (eOp2 modD (eSlot 3) (eCall lenD (aCons (eOp2 ixD (eSlot 0) (eLit (.int 0))) aNil)))))
 sSkip)
 (sSeq (sIf (mAnd (asT (eOp2 ltD (eSlot 3) (eCall lenD (aCons (eOp2 ixD (eSlot 0) (eLit (.int 0))) aNil)))) (asT (eOp2 geD (eCall absD (aCons (eSlot 4) aNil)) (eOp2 powD (eLit (.int 10)) (eLit (.int 18))))))
 (sSeq (sSetIx 0 (eLit (.int 2)) (eOp2 divD (eCall absD (aCons (eSlot 4) aNil)) (eSlot 1)))
 (sRet (eOp2 modD (eCall absD (aCons (eSlot 4) aNil)) (eSlot 1))))
 sSkip)
 (sSeq (sSet 5 (eOp2 modD (eOp2 mulRD (eOp2 addD (eOp2 addD (eOp2 modD (eSlot 4) (eLit (.int 2147483629))) (eOp2 mulRD (eLit (.int 104729)) (eSlot 3))) (eLit (.int 3))) (eLit (.int 48271))) (eLit (.int 2147483647))))
 (sSeq (sSet 6 (eOp2 modD (eOp2 addD (eOp2 addD (eOp2 mulRD (eSlot 5) (eSlot 5)) (eOp2 mulRD (eLit (.int 69621)) (eSlot 5))) (eOp2 mulRD (eLit (.int 13)) (eSlot 3))) (eLit (.int 2147483587))))
 (sRet (eOp2 modD (eOp2 divD (eOp2 modD (eOp2 mulRD (eSlot 6) (eOp2 addD (eOp2 modD (eSlot 6) (eLit (.int 65521))) (eLit (.int 5)))) (eLit (.int 2147483579))) (eLit (.int 64))) (eSlot 1)))))))))))
def c_law_take : CF := runF 2 7 b_law_take
def b_law_wide : MS := (sSeq (sIf (asT (eOp2 ltD (eSlot 1) (eOp2 powD (eLit (.int 10)) (eLit (.int 7)))))
 (sRet (eUser c_law_take (aCons (eSlot 0) (aCons (eSlot 1) aNil))))
 sSkip)
 (sSeq (sSet 2 (eLit (.int 0)))
 (sSeq (sFor (gSlot 3) (iRange1 (eOp2 addD (eOp2 divD (eCall lenD (aCons (eCall strD (aCons (eSlot 1) aNil)) aNil)) (eLit (.int 7))) (eLit (.int 1))))
 (sSet 2 (eOp2 addD (eOp2 mulRD (eSlot 2) (eOp2 powD (eLit (.int 10)) (eLit (.int 7)))) (eUser c_law_take (aCons (eSlot 0) (aCons (eOp2 powD (eLit (.int 10)) (eLit (.int 7))) aNil))))))
 (sRet (eOp2 modD (eSlot 2) (eSlot 1))))))
def c_law_wide : CF := runF 2 4 b_law_wide
def b_law_same : MS := (sRet (eT (mAnd (asT (eOp2 eqD (eSlot 0) (eSlot 1))) (asT (eOp2 eqD (eCall reprD (aCons (eSlot 0) aNil)) (eCall reprD (aCons (eSlot 1) aNil)))))))
def c_law_same : CF := runF 2 2 b_law_same
def b_law_boxes : MS := (sSeq (sSet 2 (eLst (aCons (eUser c_law_take (aCons (eSlot 0) (aCons (eLit (.int 8)) aNil))) (aCons (eUser c_law_take (aCons (eSlot 0) (aCons (eLit (.int 8)) aNil))) aNil))))
 (sSeq (sSet 3 (eLst (aCons (eTup (aCons (eCall tupleD (aCons (eSlot 2) aNil)) (aCons (eTup (aCons (eOp2 addD (eOp2 ixD (eSlot 2) (eLit (.int 0))) (eUser c_law_take (aCons (eSlot 0) (aCons (eLit (.int 9)) aNil)))) (aCons (eOp2 addD (eOp2 ixD (eSlot 2) (eLit (.int 1))) (eUser c_law_take (aCons (eSlot 0) (aCons (eLit (.int 9)) aNil)))) aNil))) aNil))) aNil)))
 (sSeq (sFor (gSlot 4) (iRange1 (eUser c_law_take (aCons (eSlot 0) (aCons (eSlot 1) aNil))))
 (sSeq (sAsg (gUnp 2 (gsCons (gSlot 5) (gsCons (gSlot 6) gsNil))) (eOp2 ixD (eSlot 3) (eOp1 negD (eLit (.int 1)))))
 (sSeq (sSet 7 (eLst (aCons (eUser c_law_take (aCons (eSlot 0) (aCons (eLit (.int 4)) aNil))) (aCons (eUser c_law_take (aCons (eSlot 0) (aCons (eLit (.int 4)) aNil))) aNil))))
 (sSeq (sSet 2 (eLc [8] (gSlot 8) (iRange1 (eLit (.int 2))) mYes (eOp2 addD (eOp2 subD (eOp2 subD (eOp2 ixD (eSlot 5) (eSlot 8)) (eOp2 ixD (eSlot 7) (eSlot 8))) (eLit (.int 1))) (eUser c_law_take (aCons (eSlot 0) (aCons (eOp2 addD (eOp2 addD (eOp2 subD (eOp2 ixD (eSlot 6) (eSlot 8)) (eOp2 ixD (eSlot 5) (eSlot 8))) (eOp2 ixD (eSlot 7) (eSlot 8))) (eLit (.int 3))) aNil))))))
 (sExpr (eApp 3 (eTup (aCons (eCall tupleD (aCons (eSlot 2) aNil)) (aCons (eTup (aCons (eOp2 addD (eOp2 ixD (eSlot 2) (eLit (.int 0))) (eOp2 ixD (eSlot 7) (eLit (.int 0)))) (aCons (eOp2 addD (eOp2 ixD (eSlot 2) (eLit (.int 1))) (eOp2 ixD (eSlot 7) (eLit (.int 1)))) aNil))) aNil)))))))))
 (sRet (eSlot 3)))))
def c_law_boxes : CF := runF 2 9 b_law_boxes
def b_law_stretched : MS := (sSeq (sSet 3 (eLst aNil))
 (sSeq (sFor (gUnp 2 (gsCons (gSlot 4) (gsCons (gSlot 5) gsNil))) (iAny (eSlot 0))
 (sSeq (sSet 6 (eTup (aCons (eOp2 addD (eOp2 mulRD (eOp2 ixD (eSlot 4) (eLit (.int 0))) (eSlot 1)) (eOp2 ixD (eSlot 2) (eLit (.int 0)))) (aCons (eOp2 addD (eOp2 mulRD (eOp2 ixD (eSlot 4) (eLit (.int 1))) (eSlot 1)) (eOp2 ixD (eSlot 2) (eLit (.int 1)))) aNil))))
 (sExpr (eApp 3 (eTup (aCons (eSlot 6) (aCons (eTup (aCons (eOp2 addD (eOp2 subD (eOp2 addD (eOp2 mulRD (eOp2 ixD (eSlot 5) (eLit (.int 0))) (eSlot 1)) (eSlot 1)) (eLit (.int 1))) (eOp2 ixD (eSlot 2) (eLit (.int 0)))) (aCons (eOp2 addD (eOp2 subD (eOp2 addD (eOp2 mulRD (eOp2 ixD (eSlot 5) (eLit (.int 1))) (eSlot 1)) (eSlot 1)) (eLit (.int 1))) (eOp2 ixD (eSlot 2) (eLit (.int 1)))) aNil))) aNil)))))))
 (sRet (eCall tupleD (aCons (eSlot 3) aNil)))))
def c_law_stretched : CF := runF 3 7 b_law_stretched
def b_law_stretch : MS := (sSeq (sSet 1 (eOp2 ixD (eLst (aCons (eLit (.int 1)) (aCons (eLit (.int 1)) (aCons (eLit (.int 1)) (aCons (eLit (.int 2)) (aCons (eLit (.int 1000)) (aCons (eOp2 powD (eLit (.int 10)) (eLit (.int 10))) aNil))))))) (eUser c_law_take (aCons (eSlot 0) (aCons (eLit (.int 6)) aNil)))))
 (sSeq (sSet 2 (eOp2 ixD (eLst (aCons (eTup (aCons (eLit (.int 0)) (aCons (eLit (.int 0)) aNil))) (aCons (eTup (aCons (eOp2 subD (eUser c_law_take (aCons (eSlot 0) (aCons (eLit (.int 41)) aNil))) (eLit (.int 20))) (aCons (eOp2 subD (eUser c_law_take (aCons (eSlot 0) (aCons (eLit (.int 41)) aNil))) (eLit (.int 20))) aNil))) aNil))) (eUser c_law_take (aCons (eSlot 0) (aCons (eLit (.int 2)) aNil)))))
 (sSeq (sIf (asT (eOp2 eqD (eSlot 1) (eOp2 powD (eLit (.int 10)) (eLit (.int 10)))))
 (sSet 2 (eTup (aCons (eUser c_law_wide (aCons (eSlot 0) (aCons (eOp2 powD (eLit (.int 10)) (eLit (.int 11))) aNil))) (aCons (eOp2 subD (eLit (.int 0)) (eUser c_law_wide (aCons (eSlot 0) (aCons (eOp2 powD (eLit (.int 10)) (eLit (.int 11))) aNil)))) aNil))))
 sSkip)
 (sRet (eTup (aCons (eSlot 1) (aCons (eSlot 2) aNil)))))))
def c_law_stretch : CF := runF 1 3 b_law_stretch
def b_law_names : MS := (sSeq (sSet 2 (eLit (.str "abcdefghijklmnopqrstuvwxyz")))
 (sSeq (sSet 3 (eLst (aCons (eLit (.str "land")) (aCons (eLit (.str "drop")) (aCons (eLit (.str "free")) (aCons (eLit (.str "spot")) (aCons (eLit (.str "comes")) (aCons (eLit (.str "goes")) (aCons (eLit (.str "in")) (aCons (eLit (.str "out")) (aCons (eLit (.str "stays")) (aCons (eLit (.str "wait")) (aCons (eLit (.str "none")) (aCons (eLit (.str "a")) (aCons (eLit (.str "z")) aNil)))))))))))))))
 (sSeq (sSet 4 (eM1 joinD (eLit (.str "")) (eLc [10] (gSlot 10) (iRange1 (eLit (.int 8))) mYes (eOp2 ixD (eSlot 2) (eUser c_law_take (aCons (eSlot 0) (aCons (eLit (.int 26)) aNil)))))))
 (sSeq (sSet 5 (eUser c_law_take (aCons (eSlot 0) (aCons (eLit (.int 26)) aNil))))
 (sSeq (sSet 6 (eUser c_law_take (aCons (eSlot 0) (aCons (eLit (.int 4)) aNil))))
 (sSeq (sIf (asT (eOp2 eqD (eSlot 6) (eLit (.int 0))))
 (sRet (eLc [10] (gSlot 10) (iRange1 (eSlot 1)) mYes (eSl slD (eSlot 4) oNo (oSm (eOp2 addD (eOp2 modD (eOp2 addD (eSlot 5) (eOp2 mulRD (eLit (.int 3)) (eSlot 10))) (eLit (.int 8))) (eLit (.int 1)))))))
 sSkip)
 (sSeq (sIf (asT (eOp2 eqD (eSlot 6) (eLit (.int 1))))
 (sRet (eLc [10] (gSlot 10) (iRange1 (eSlot 1)) mYes (eOp2 ixD (eSlot 3) (eOp2 modD (eOp2 addD (eSlot 5) (eSlot 10)) (eLit (.int 13))))))
 sSkip)
 (sSeq (sSet 7 (eOp2 addD (eLit (.int 1)) (eUser c_law_take (aCons (eSlot 0) (aCons (eLit (.int 8)) aNil)))))
 (sSeq (sSet 8 (eUser c_law_take (aCons (eSlot 0) (aCons (eSlot 7) aNil))))
 (sSeq (sSet 9 (eLc [10] (gSlot 10) (iRange1 (eSlot 1)) mYes (eOp2 ixD (eSlot 2) (eOp2 modD (eOp2 addD (eSlot 5) (eOp2 mulRD (eLit (.int 5)) (eSlot 10))) (eLit (.int 26))))))
 (sRet (eLc [11] (gSlot 11) (iAny (eSlot 9)) mYes (eOp2 addD (eOp2 addD (eSl slD (eSlot 4) oNo (oSm (eSlot 8))) (eSlot 11)) (eSl slD (eSlot 4) (oSm (eOp2 addD (eSlot 8) (eLit (.int 1)))) (oSm (eSlot 7))))))))))))))))
def c_law_names : CF := runF 2 12 b_law_names
def b_law_world : MS := (sSeq (sAsg (gUnp 2 (gsCons (gSlot 1) (gsCons (gSlot 2) gsNil))) (eUser c_law_stretch (aCons (eSlot 0) aNil)))
 (sSeq (sSet 3 (eOp2 powD (eLit (.int 10)) (eLit (.int 12))))
 (sSeq (sSet 4 (eOp2 ixD (eLst (aCons (eLit (.int 0)) (aCons (eLit (.int 3)) (aCons (eOp2 subD (eSlot 3) (eLit (.int 8))) (aCons (eUser c_law_wide (aCons (eSlot 0) (aCons (eOp2 subD (eSlot 3) (eLit (.int 8))) aNil))) aNil))))) (eUser c_law_take (aCons (eSlot 0) (aCons (eLit (.int 4)) aNil)))))
 (sSeq (sSet 5 (eOp2 addD (eLit (.int 1)) (eUser c_law_take (aCons (eSlot 0) (aCons (eLit (.int 9)) aNil)))))
 (sSeq (sSet 6 (eUser c_law_names (aCons (eSlot 0) (aCons (eOp2 addD (eLit (.int 1)) (eUser c_law_take (aCons (eSlot 0) (aCons (eLit (.int 4)) aNil)))) aNil))))
 (sSeq (sSet 7 (eUser c_law_names (aCons (eSlot 0) (aCons (eOp2 addD (eLit (.int 1)) (eUser c_law_take (aCons (eSlot 0) (aCons (eLit (.int 5)) aNil)))) aNil))))
 (sRet (eDict [((eLit (.str "by")), (eSlot 1)), ((eLit (.str "off")), (eSlot 2)), ((eLit (.str "begin")), (eSlot 4)), ((eLit (.str "span")), (eSlot 5)), ((eLit (.str "things")), (eSlot 6)), ((eLit (.str "lands")), (eSlot 7))]))))))))
def c_law_world : CF := runF 1 8 b_law_world
def b_law_spot : MS := (sSeq (sSet 2 (eOp2 ixD (eSlot 1) (eLit (.str "by"))))
 (sRet (eCall tupleD (aCons (eLc [3] (gSlot 3) (iRange1 (eLit (.int 2))) mYes (eOp2 addD (eOp2 addD (eOp2 mulRD (eOp2 subD (eUser c_law_take (aCons (eSlot 0) (aCons (eLit (.int 17)) aNil))) (eLit (.int 2))) (eSlot 2)) (eUser c_law_wide (aCons (eSlot 0) (aCons (eSlot 2) aNil)))) (eOp2 ixD (eOp2 ixD (eSlot 1) (eLit (.str "off"))) (eSlot 3)))) aNil))))
def c_law_spot : CF := runF 2 4 b_law_spot
def b_law_land : MS := (sSeq (sSet 3 (eOp2 ixD (eSlot 1) (eLit (.str "lands"))))
 (sSeq (sSet 4 (eOp2 ixD (eSlot 1) (eLit (.str "by"))))
 (sSeq (sSet 5 (eOp2 ixD (eOp2 addD (eRepL (eLst (aCons (eLit (.str "")) aNil)) (eCall lenD (aCons (eSlot 3) aNil))) (eSlot 3)) (eUser c_law_take (aCons (eSlot 0) (aCons (eOp2 mulRD (eLit (.int 2)) (eCall lenD (aCons (eSlot 3) aNil))) aNil)))))
 (sSeq (sSet 6 (eUser c_law_boxes (aCons (eSlot 0) (aCons (eOp2 ixD (eLst (aCons (eLit (.int 3)) (aCons (eLit (.int 3)) (aCons (eLit (.int 3)) (aCons (eLit (.int 6)) aNil))))) (eUser c_law_take (aCons (eSlot 0) (aCons (eLit (.int 4)) aNil)))) aNil))))
 (sSeq (sSet 7 (eOp2 divD (eOp2 mulRD (eOp2 ixD (eLst (aCons (eLit (.int 0)) (aCons (eLit (.int 0)) (aCons (eLit (.int 1)) (aCons (eLit (.int 2)) (aCons (eLit (.int 3)) aNil)))))) (eUser c_law_take (aCons (eSlot 0) (aCons (eLit (.int 5)) aNil)))) (eSlot 4)) (eOp2 ixD (eLst (aCons (eLit (.int 1)) (aCons (eLit (.int 2)) aNil))) (eUser c_law_take (aCons (eSlot 0) (aCons (eLit (.int 2)) aNil))))))
 (sSeq (sSet 8 (eOp2 ixD (eSlot 3) (eUser c_law_take (aCons (eSlot 0) (aCons (eCall lenD (aCons (eSlot 3) aNil)) aNil)))))
 (sRet (eTup (aCons (eLit (.str "land")) (aCons (eSlot 2) (aCons (eSlot 8) (aCons (eSlot 5) (aCons (eUser c_law_stretched (aCons (eSlot 6) (aCons (eSlot 4) (aCons (eOp2 ixD (eSlot 1) (eLit (.str "off"))) aNil)))) (aCons (eSlot 7) aNil))))))))))))))
def c_law_land : CF := runF 3 9 b_law_land
def b_law_telling : MS := (sSeq (sSet 2 (eUser c_law_take (aCons (eSlot 0) (aCons (eLit (.int 10)) aNil))))
 (sSeq (sSet 3 (eOp2 addD (eOp2 ixD (eSlot 1) (eLit (.str "begin"))) (eUser c_law_take (aCons (eSlot 0) (aCons (eOp2 ixD (eSlot 1) (eLit (.str "span"))) aNil)))))
 (sSeq (sSet 4 (eOp2 ixD (eOp2 ixD (eSlot 1) (eLit (.str "things"))) (eUser c_law_take (aCons (eSlot 0) (aCons (eCall lenD (aCons (eOp2 ixD (eSlot 1) (eLit (.str "things"))) aNil)) aNil)))))
 (sSeq (sIf (asT (eOp2 ltD (eSlot 2) (eLit (.int 3))))
 (sRet (eUser c_law_land (aCons (eSlot 0) (aCons (eSlot 1) (aCons (eSlot 3) aNil)))))
 sSkip)
 (sSeq (sIf (asT (eOp2 eqD (eSlot 2) (eLit (.int 3))))
 (sRet (eTup (aCons (eLit (.str "drop")) (aCons (eSlot 3) (aCons (eOp2 ixD (eOp2 ixD (eSlot 1) (eLit (.str "lands"))) (eUser c_law_take (aCons (eSlot 0) (aCons (eCall lenD (aCons (eOp2 ixD (eSlot 1) (eLit (.str "lands"))) aNil)) aNil)))) aNil)))))
 sSkip)
 (sSeq (sIf (asT (eOp2 eqD (eSlot 2) (eLit (.int 4))))
 (sRet (eTup (aCons (eLit (.str "free")) (aCons (eSlot 3) (aCons (eSlot 4) aNil)))))
 sSkip)
 (sRet (eTup (aCons (eLit (.str "spot")) (aCons (eSlot 3) (aCons (eSlot 4) (aCons (eUser c_law_spot (aCons (eSlot 0) (aCons (eSlot 1) aNil))) aNil))))))))))))
def c_law_telling : CF := runF 2 5 b_law_telling
def b_law_turned : MS := (sSeq (sSet 2 (eLst aNil))
 (sSeq (sFor (gSlot 3) (iAny (eSlot 1))
 (sExpr (eIns 2 (eUser c_law_take (aCons (eSlot 0) (aCons (eOp2 addD (eCall lenD (aCons (eSlot 2) aNil)) (eLit (.int 1))) aNil))) (eSlot 3))))
 (sRet (eSlot 2))))
def c_law_turned : CF := runF 2 4 b_law_turned
def b_law_near : MS := (sSeq (sIf (asT (eOp2 eqD (eOp2 ixD (eSlot 2) (eLit (.int 0))) (eLit (.str "drop"))))
 (sRet (eOp2 addD (eOp2 addD (eSl slD (eUser c_law_land (aCons (eSlot 0) (aCons (eSlot 1) (aCons (eOp2 ixD (eSlot 2) (eLit (.int 1))) aNil)))) oNo (oSm (eLit (.int 2)))) (eTup (aCons (eOp2 ixD (eSlot 2) (eLit (.int 2))) aNil))) (eSl slD (eUser c_law_land (aCons (eSlot 0) (aCons (eSlot 1) (aCons (eLit (.int 0)) aNil)))) (oSm (eLit (.int 3))) oNo)))
 sSkip)
 (sSeq (sIf (asT (eOp2 eqD (eOp2 ixD (eSlot 2) (eLit (.int 0))) (eLit (.str "free"))))
 (sRet (eSlot 2))
 sSkip)
 (sSeq (sIf (asT (eOp2 eqD (eOp2 ixD (eSlot 2) (eLit (.int 0))) (eLit (.str "spot"))))
 (sSeq (sAsg (gUnp 2 (gsCons (gSlot 3) (gsCons (gSlot 4) gsNil))) (eOp2 ixD (eSlot 2) (eLit (.int 3))))
 (sRet (eOp2 addD (eSl slD (eSlot 2) oNo (oSm (eLit (.int 3)))) (eTup (aCons (eTup (aCons (eSlot 3) (aCons (eOp2 addD (eSlot 4) (eOp2 ixD (eLst (aCons (eLit (.int 1)) (aCons (eOp1 negD (eLit (.int 1))) aNil))) (eUser c_law_take (aCons (eSlot 0) (aCons (eLit (.int 2)) aNil))))) aNil))) aNil)))))
 sSkip)
 (sSeq (sSet 5 (eUser c_law_take (aCons (eSlot 0) (aCons (eLit (.int 4)) aNil))))
 (sSeq (sIf (asT (eOp2 eqD (eSlot 5) (eLit (.int 0))))
 (sRet (eOp2 addD (eTup (aCons (eLit (.str "drop")) aNil)) (eSl slD (eSlot 2) (oSm (eLit (.int 1))) (oSm (eLit (.int 3))))))
 sSkip)
 (sSeq (sIf (asT (eOp2 eqD (eSlot 5) (eLit (.int 1))))
 (sRet (eOp2 addD (eSl slD (eSlot 2) oNo (oSm (eLit (.int 5)))) (eTup (aCons (eOp2 addD (eOp2 ixD (eSlot 2) (eLit (.int 5))) (eLit (.int 1))) aNil))))
 sSkip)
 (sSeq (sIf (asT (eOp2 eqD (eSlot 5) (eLit (.int 2))))
 (sRet (eOp2 addD (eOp2 addD (eSl slD (eSlot 2) oNo (oSm (eLit (.int 4)))) (eTup (aCons (eOp2 addD (eOp2 ixD (eSlot 2) (eLit (.int 4))) (eSl slD (eOp2 ixD (eSlot 2) (eLit (.int 4))) (oSm (eOp1 negD (eLit (.int 1)))) oNo)) aNil))) (eSl slD (eSlot 2) (oSm (eLit (.int 5))) oNo)))
 sSkip)
 (sRet (eOp2 addD (eSl slD (eSlot 2) oNo (oSm (eLit (.int 3)))) (eSl slD (eUser c_law_land (aCons (eSlot 0) (aCons (eSlot 1) (aCons (eLit (.int 0)) aNil)))) (oSm (eLit (.int 3))) oNo))))))))))
def c_law_near : CF := runF 3 6 b_law_near
def b_law_drawn : MS := (sSeq (sSet 2 (eUser c_law_take (aCons (eSlot 0) (aCons (eLit (.int 41)) aNil))))
 (sSeq (sIf (asT (eOp2 eqD (eUser c_law_take (aCons (eSlot 0) (aCons (eLit (.int 8)) aNil))) (eLit (.int 0))))
 (sSet 2 (eLit (.int 300)))
 sSkip)
 (sSeq (sSet 3 (eLst aNil))
 (sSeq (sFor (gSlot 4) (iRange1 (eSlot 2))
 (sSeq (sSet 5 (eUser c_law_take (aCons (eSlot 0) (aCons (eLit (.int 4)) aNil))))
 (sSeq (sExpr (eApp 3 (eUser c_law_telling (aCons (eSlot 0) (aCons (eSlot 1) aNil)))))
 (sSeq (sIf (mAnd (asT (eOp2 eqD (eSlot 5) (eLit (.int 0)))) (asT (eOp2 gtD (eSlot 4) (eLit (.int 0)))))
 (sSetIx 3 (eSlot 4) (eOp2 ixD (eSlot 3) (eUser c_law_take (aCons (eSlot 0) (aCons (eSlot 4) aNil)))))
 sSkip)
 (sIf (mAnd (asT (eOp2 eqD (eSlot 5) (eLit (.int 1)))) (asT (eOp2 gtD (eSlot 4) (eLit (.int 0)))))
 (sSetIx 3 (eSlot 4) (eUser c_law_near (aCons (eSlot 0) (aCons (eSlot 1) (aCons (eOp2 ixD (eSlot 3) (eUser c_law_take (aCons (eSlot 0) (aCons (eSlot 4) aNil)))) aNil)))))
 sSkip)))))
 (sRet (eLc [6] (gSlot 6) (iAny (eSlot 3)) (mOr (asT (eOp2 neD (eOp2 ixD (eSlot 6) (eLit (.int 0))) (eLit (.str "land")))) (asT (eOp2 ltD (eCall lenD (aCons (eOp2 ixD (eSlot 6) (eLit (.int 4))) aNil)) (eLit (.int 7))))) (eSlot 6)))))))
def c_law_drawn : CF := runF 2 7 b_law_drawn
def b_law_goes_ahead : MS := (sSeq (sSet 2 (eDict [((eLit (.str "land")), (eLit (.int 0))), ((eLit (.str "drop")), (eLit (.int 0))), ((eLit (.str "free")), (eLit (.int 1))), ((eLit (.str "spot")), (eLit (.int 2)))]))
 (sSeq (sSet 3 (eTup (aCons (eOp2 ixD (eSlot 0) (eLit (.int 1))) (aCons (eOp2 ixD (eSlot 2) (eOp2 ixD (eSlot 0) (eLit (.int 0)))) (aCons (eOp2 ixD (eSlot 0) (eLit (.int 2))) aNil)))))
 (sSeq (sSet 4 (eTup (aCons (eOp2 ixD (eSlot 1) (eLit (.int 1))) (aCons (eOp2 ixD (eSlot 2) (eOp2 ixD (eSlot 1) (eLit (.int 0)))) (aCons (eOp2 ixD (eSlot 1) (eLit (.int 2))) aNil)))))
 (sSeq (sIf (asT (eOp2 neD (eSlot 3) (eSlot 4)))
 (sRet (eOp2 ltAD (eSlot 3) (eSlot 4)))
 sSkip)
 (sSeq (sIf (asT (eOp2 neD (eOp2 ixD (eSlot 0) (eLit (.int 0))) (eOp2 ixD (eSlot 1) (eLit (.int 0)))))
 (sRet (eOp2 eqD (eOp2 ixD (eSlot 0) (eLit (.int 0))) (eLit (.str "drop"))))
 sSkip)
 (sRet (eOp2 ltAD (eSl slD (eSlot 0) (oSm (eLit (.int 3))) oNo) (eSl slD (eSlot 1) (oSm (eLit (.int 3))) oNo))))))))
def c_law_goes_ahead : CF := runF 2 5 b_law_goes_ahead
def b_law_due : MS := (sSeq (sSet 1 (eDict [((eLit (.str "land")), (eLit (.int 0))), ((eLit (.str "drop")), (eLit (.int 0))), ((eLit (.str "free")), (eLit (.int 1))), ((eLit (.str "spot")), (eLit (.int 2)))]))
 (sSeq (sSet 2 (eLst aNil))
 (sSeq (sFor (gSlot 3) (iAny (eSlot 0))
 (sSeq (sSet 4 (eLit (.int 0)))
 (sSeq (sWhile wN (mAnd (asT (eOp2 ltD (eSlot 4) (eCall lenD (aCons (eSlot 2) aNil)))) (asT (eUser c_law_goes_ahead (aCons (eOp2 ixD (eSlot 2) (eSlot 4)) (aCons (eSlot 3) aNil)))))
 (sSet 4 (eOp2 addD (eSlot 4) (eLit (.int 1)))))
 (sExpr (eIns 2 (eSlot 4) (eSlot 3))))))
 (sSeq (sSet 5 (eLst aNil))
 (sSeq (sFor (gSlot 3) (iAny (eSlot 2))
 (sSeq (sSet 6 (eTup (aCons (eOp2 ixD (eSlot 3) (eLit (.int 1))) (aCons (eOp2 ixD (eSlot 1) (eOp2 ixD (eSlot 3) (eLit (.int 0)))) (aCons (eOp2 ixD (eSlot 3) (eLit (.int 2))) aNil)))))
 (sIf (mOr (asT (eOp2 eqLD (eSlot 5) (eLst aNil))) (asT (eOp2 neD (eTup (aCons (eOp2 ixD (eOp2 ixD (eSlot 5) (eOp1 negD (eLit (.int 1)))) (eLit (.int 1))) (aCons (eOp2 ixD (eSlot 1) (eOp2 ixD (eOp2 ixD (eSlot 5) (eOp1 negD (eLit (.int 1)))) (eLit (.int 0)))) (aCons (eOp2 ixD (eOp2 ixD (eSlot 5) (eOp1 negD (eLit (.int 1)))) (eLit (.int 2))) aNil)))) (eSlot 6))))
 (sExpr (eApp 5 (eSlot 3)))
 sSkip)))
 (sRet (eSlot 5)))))))
def c_law_due : CF := runF 1 7 b_law_due
def b_law : MS := (sSeq (sSet 1 (eLst (aCons (eSlot 0) (aCons (eLit (.int 0)) (aCons (eLit (.int 0)) aNil)))))
 (sSeq (sSet 2 (eUser c_law_world (aCons (eSlot 1) aNil)))
 (sSeq (sSet 3 (eUser c_law_drawn (aCons (eSlot 1) (aCons (eSlot 2) aNil))))
 (sSeq (sSet 4 (eUser c_law_due (aCons (eSlot 3) aNil)))
 (sSeq (sSet 5 (eUser c_law_turned (aCons (eSlot 1) (aCons (eSl slD (eOp2 addD (eSlot 3) (eSl slD (eSlot 3) oNo (oSm (eUser c_law_take (aCons (eSlot 1) (aCons (eLit (.int 9)) aNil)))))) oNo (oSm (eLit (.int 300)))) aNil))))
 (sSeq (sFor (gSlot 6) (iAny (eLst (aCons (eSlot 3) (aCons (eSlot 5) (aCons (eSlot 4) (aCons (eRev (eSlot 4)) aNil))))))
 (sSeq (sSet 7 (eCall reprD (aCons (eSlot 6) aNil)))
 (sFor (gSlot 8) (iRange1 (eLit (.int 2)))
 (sSeq (sSet 9 (eUser c_in_order (aCons (eSlot 6) aNil)))
 (sSeq (sIf (mOr (mNot (asT (eUser c_law_same (aCons (eSlot 9) (aCons (eSlot 4) aNil))))) (asT (eOp2 neD (eCall reprD (aCons (eSlot 6) aNil)) (eSlot 7))))
 (sRet (eLit (.bool false)))
 sSkip)
 (sSeq (sExpr (eRvs 9))
 (sExpr (eApp 9 (eLit .none)))))))))
 (sRet (eOp2 eqLD (eUser c_in_order (aCons (eLst aNil) aNil)) (eLst aNil)))))))))
def c_law : CF := runF 1 10 b_law
theorem lit_0 : Str.ofString "land" = SX.S [108, 97, 110, 100] := by decide +kernel
theorem lit_1 : Str.ofString "drop" = SX.S [100, 114, 111, 112] := by decide +kernel
theorem lit_2 : Str.ofString "free" = SX.S [102, 114, 101, 101] := by decide +kernel
theorem lit_3 : Str.ofString "spot" = SX.S [115, 112, 111, 116] := by decide +kernel
theorem lit_4 : Str.ofString "abcdefghijklmnopqrstuvwxyz" = SX.S [97, 98, 99, 100, 101, 102, 103, 104, 105, 106, 107, 108, 109, 110, 111, 112, 113, 114, 115, 116, 117, 118, 119, 120, 121, 122] := by decide +kernel
theorem lit_5 : Str.ofString "comes" = SX.S [99, 111, 109, 101, 115] := by decide +kernel
theorem lit_6 : Str.ofString "goes" = SX.S [103, 111, 101, 115] := by decide +kernel
theorem lit_7 : Str.ofString "in" = SX.S [105, 110] := by decide +kernel
theorem lit_8 : Str.ofString "out" = SX.S [111, 117, 116] := by decide +kernel
theorem lit_9 : Str.ofString "stays" = SX.S [115, 116, 97, 121, 115] := by decide +kernel
theorem lit_10 : Str.ofString "wait" = SX.S [119, 97, 105, 116] := by decide +kernel
theorem lit_11 : Str.ofString "none" = SX.S [110, 111, 110, 101] := by decide +kernel
theorem lit_12 : Str.ofString "a" = SX.S [97] := by decide +kernel
theorem lit_13 : Str.ofString "z" = SX.S [122] := by decide +kernel
theorem lit_14 : Str.ofString "" = SX.S [] := by decide +kernel
theorem lit_15 : Str.ofString "lands" = SX.S [108, 97, 110, 100, 115] := by decide +kernel
theorem lit_16 : Str.ofString "things" = SX.S [116, 104, 105, 110, 103, 115] := by decide +kernel
theorem lit_17 : Str.ofString "span" = SX.S [115, 112, 97, 110] := by decide +kernel
theorem lit_18 : Str.ofString "begin" = SX.S [98, 101, 103, 105, 110] := by decide +kernel
theorem lit_19 : Str.ofString "off" = SX.S [111, 102, 102] := by decide +kernel
theorem lit_20 : Str.ofString "by" = SX.S [98, 121] := by decide +kernel
-- LITS: lit_0 lit_1 lit_2 lit_3 lit_4 lit_5 lit_6 lit_7 lit_8 lit_9 lit_10 lit_11 lit_12 lit_13 lit_14 lit_15 lit_16 lit_17 lit_18 lit_19 lit_20
end G_k19

namespace G_k19
open PySem PyProof.Rows L2 L3

local macro_rules
  | `(tactic| simp_arith [$as,*]) => `(tactic| (try simp only [↓wx_0, ↓wx_s, ↓wv_fz, ↓wv_own, ↓wv_plc, ↓kView_fz, ↓kView_own, ↓kView_ref, ↓kView_rfz, ↓wf_fz, ↓wf_own, ↓wf_plc, ↓kFix_fz, ↓kFix_rfz, ↓kFix_own, ↓kFix_ref, ↓we_lit, ↓we_slot, ↓kSlot_fz, ↓kSlot_rfz, ↓kSlot_own, ↓kSlot_ref, ↓wa_nil, ↓wa_cons, ↓kCons1_eq, ↓kCons2_eq, ↓wvs_nil, ↓wvs_cons, ↓kVs1_eq, ↓kVs2_eq, ↓we_op2, ↓kOp2a_eq, ↓kOp2b_eq, ↓kOp2c_eq, ↓kOp2d_eq, ↓we_op1, ↓kOp1a_eq, ↓kOp1b_eq, ↓we_call, ↓kCalla_eq, ↓kCallb_eq, ↓wt_asT, ↓kAsT_eq, ↓wt_and, ↓wt_or, ↓wt_not, ↓kAnd_t, ↓kAnd_f, ↓kOr_t, ↓kOr_f, ↓kNot_eq, ↓we_eT, ↓kET_eq, ↓we_if, ↓kIfE_t, ↓kIfE_f, ↓we_chain, ↓kCh1_eq, ↓kCh2_eq, ↓kCh3_eq, ↓kCh4_eq, ↓kCh5_t, ↓kCh5_f, ↓wfs_nil, ↓wfs_cons, ↓kFs1_eq, ↓kFs2_eq, ↓we_tup, ↓we_lst, ↓kTup_eq, ↓kTupb_eq, ↓kLst_eq, ↓kLstb_eq, ↓we_dict, ↓kDict_eq, ↓kDictb_nil, ↓we_dictT, ↓kDictT_eq, ↓kDictTb_2, ↓wa_pairs0, ↓wa_pairs, ↓wo_no, ↓wo_sm, ↓kSm_eq, ↓we_sl, ↓kSl1_eq, ↓kSl2_eq, ↓kSl3_eq, ↓kSl4_eq, ↓we_m0, ↓we_m1, ↓kM0_eq, ↓kM1_eq, ↓kM1b_eq, ↓kM1c_eq, ↓wg_slot, ↓kGSlot_eq, ↓wgs_nil, ↓wgs_cons, ↓kGs_eq, ↓wg_unp, ↓wi_any, ↓kIAnyA_eq, ↓kIAny_l, ↓kIAny_t, ↓kIAny_s, ↓wi_r1, ↓wi_r2, ↓kR1_eq, ↓kR2_eq, ↓kR2a_eq, ↓we_lc, ↓kLc_eq, ↓kLcE_eq, ↓kLcF_eq, ↓kLcR_eq, ↓kLcT_eq, ↓kLcB_t, ↓kLcB_f, ↓wt_yes, ↓ws_skip, ↓ws_seq, ↓kSeq_nx, ↓kSeq_rt, ↓kSeq_bk, ↓kSeq_ct, ↓ws_expr, ↓kExpr_eq, ↓ws_set, ↓kSet_eq, ↓kSetL_eq, ↓kSetV_fz, ↓kSetV_own, ↓kSetV_plc, ↓kSetP_own, ↓kSetP_ref, ↓kSetP_fz, ↓ws_asg, ↓kAsg_fz, ↓kAsgB_eq, ↓ws_ret, ↓kRet_fz, ↓kRet_own, ↓kRet_plc, ↓kRetP_own, ↓kRetP_ref, ↓ws_retN, ↓ws_if, ↓kIf_t, ↓kIf_f, ↓ws_brk, ↓ws_cnt, ↓ws_for, ↓kFor_eq, ↓kLoop_nx, ↓kLoop_ct, ↓kLoop_bk, ↓kLoop_rt, ↓kBody_eq, ↓wl_eq, ↓kOwnL_own, ↓kOwnL_ref, ↓ws_setIx, ↓kSI1_eq, ↓kSI2_eq, ↓kSI3_eq, ↓kSI4_eq, ↓kSI5_eq, ↓we_app, ↓kAp0_eq, ↓kAp1_eq, ↓kAp2_eq, ↓kAp3_eq, ↓we_user, ↓kUsr_eq, ↓kUsr1_eq, ↓kUsr2_eq, ↓kUsr3_fz, ↓kUsr3_own, ↓warg_nil, ↓warg_fz, ↓warg_own, ↓warg_plc, ↓kArg1_eq, ↓kArg2_eq, ↓kArgP_own, ↓kArgP_ref, ↓kArgP_fz, ↓kArgP_rfz, ↓wc_run, ↓kRun_rt, ↓kRun_nx, ↓kRunR_fz, ↓kRunR_own, ↓wex_nil, ↓wex_fz, ↓wex_ref, ↓wex_rfz, ↓kEx_eq, ↓we_rev, ↓kRev0_eq, ↓kRev_l, ↓kRev_t, ↓wk_eq, ↓kOwnK_own, ↓kOwnK_ref, ↓ws_setKey, ↓kSK1_eq, ↓kSK2_eq, ↓kSK3_eq, ↓kSK4_s, ↓kSK4_i, ↓kSK5_eq, ↓kSK6_eq, ↓we_get1, ↓kG1_eq, ↓kG2_d, ↓kG3_eq, ↓kG4_d, ↓kG5_s, ↓kG5_i, ↓we_get2, ↓kH1_eq, ↓kH2_d, ↓kH3_eq, ↓kH3b_eq, ↓kH3c_eq, ↓kH4_d, ↓kH5_s, ↓kH5_i, ↓kWh_t, ↓kWh_f, ↓ws_while, ↓we_ext, ↓kEx0_eq, ↓kEx1_eq, ↓kEx3_eq, ↓kJ_nx, ↓kJ_rt, ↓kJ_bk, ↓kJ_ct, ↓kIs_eq, ↓kIsE_eq, ↓we_const, ↓wvx_lift, ↓kXL_eq, ↓wvx_user, ↓kXU_eq, ↓kXU1_eq, ↓kXU2_fz, ↓kXU2_own, ↓kXU2_ex, ↓wvx_call1, ↓kXE_ex, ↓kXE_val, ↓wsx_of, ↓kOf_eq, ↓wsx_set, ↓wsx_ret, ↓wsx_expr, ↓kXSt_ex, ↓kXSt_val, ↓wsx_seq, ↓kXSeq_nx, ↓kXSeq_rt, ↓kXSeq_ex, ↓wsx_if, ↓kXIf_t, ↓kXIf_f, ↓wsx_raise, ↓wsx_try, ↓kXTry_of, ↓kXTry_ex1, ↓ws_drop, ↓kDrop_of, ↓kRunX_fz, ↓kRunX_own, ↓kRunX_ex, ↓kRunXE_eq, ↓kRunXV_eq, ↓wvx_lc, ↓kXLc_ex, ↓kXLc_val, ↓kXLc1_eq, ↓kXLcE_val, ↓kXLcE_ex, ↓wsx_for, ↓kXFor_eq, ↓wi_zip, ↓kZip_eq, ↓kZipb_t, ↓kZipb_l, ↓we_kget, ↓kKG1_eq, ↓kKG2_eq, ↓kKG3_s, ↓we_repL, ↓kRep1_eq, ↓kRep2_eq, ↓kTwo1_eq, ↓kTwo2_eq, ↓we_pop0, ↓kPop0_eq, ↓we_rvs, ↓kRvs_eq, ↓we_clr, ↓kClr_eq, ↓we_ins, ↓kIns0_eq, ↓kIns1_eq, ↓kIns2_eq, ↓kIns3_eq, ↓kIns4_eq, ↓we_lrg, ↓kLR1_eq, ↓kLR2_eq, ↓ws_par, ↓kPar_eq, ↓kParb_eq, ↓kParc_eq, ↓ws_setKeyT, ↓kST1_eq, ↓kST2_eq, ↓kST3_eq, ↓kST4_eq, ↓kST4b_eq, ↓kST5_eq, ↓kST6_eq, ↓wi_enum, ↓kEnum_eq, ↓kEnumB_l, ↓kEnumB_t, ↓we_minN, ↓kMN1_eq, ↓kMN2_0, ↓kMN2_s, ↓ws_asgF, ↓kAsgF_eq, ↓kAsgG_eq, ↓wg_unl, ↓we_kix, ↓kKI1_eq, ↓kKI2_s, ↓ws_setKeyB, ↓kSB1_eq, ↓kSB2_eq, ↓kSB3_eq, ↓kSB4_eq, ↓kSB4_0, ↓wi_keys, ↓kKeys_fz, ↓kKeys_rfz, ↓kKeys_own, ↓kKeys_ref, ↓we_idx, ↓kIX1_eq, ↓kIX2_l, ↓kIX3_eq, ↓kIX4_l, ↓wi_zipM, ↓kZipM_eq, ↓kZipMb_tl, wp_some, backSVs_nil, backSVs_cons, lock_unb, lock_fz, lock_own, plain_fz, plain_own, enter_fz, enter_own, put_ownE, put_refE, back_oo, back_of, back_ro, back_rf, back_fz, back_rfz, freeze_own, freeze_ref, freeze_fz, backAt_eq, findSV_nil, findSV_nil2, findSV_plc, findSV_fz, findSV_own, apart_nil, apart_fz, apart_own, apart_plc, placed_nil, placed_fz, placed_own, placed_plc, wipeE_nil, wipeE_cons, backE_nil, backE_cons, unlocked_nil, unlocked_cons, List.set_cons_zero, List.set_cons_succ, List.getD_cons_zero, List.getD_cons_succ, List.getElem?_cons_zero, List.getElem?_cons_succ, List.map_cons, List.map_nil, List.cons_append, List.nil_append, List.replicate_succ, List.replicate_zero, List.length_cons, List.length_nil, List.all_cons, List.all_nil, Nat.reduceSub, Nat.reduceAdd, Nat.reduceLeDiff, Nat.reduceEqDiff, Nat.reduceLT, Nat.zero_add, Bool.not_true, Bool.not_false, Bool.and_true, Bool.true_and, Bool.and_self, and_true, true_and, if_true, reduceIte, reduceCtorEq, decide_true, decide_false, Bool.false_eq_true, Bool.or_false, Bool.or_true, Bool.false_or, Bool.true_or, Bool.and_false, Bool.false_and, Nat.le_refl, lineN, Nat.one_ne_zero, Nat.zero_ne_one, mulRD_i, mulRD_s, mulRD_t, addD_i, subD_i, negD_i, cmpI_i, eqD_i, neD_i, eqD_s, neD_s, eqD_b, neD_b, isD_n, isD_b, isNotD_n, isNotD_b, isBool_b, isNone_n, isNone_b, isNone_i, isNone_s, isNone_l, isNone_t, isNone_d, isi_eq, lenD_l, lenD_t, absD_n, maxD_m, minD_m, intD_i, listD_l, listD_t, tupleD_l, tupleD_t, isiB, mulSD_i, divD_i, modD_i, powD_i, ixD_l, ixD_t, ixD_s, slD_l, slD_t, slD_s, lenD_s, addD_s, addD_l, addD_t, strD_i, wp_bind, wp_guard, atI_0, atI_1, atI_2, atI_3, atI_4, ixN_0, ixN_1, ixN_2, Int.reduceNeg, Int.reduceSub, Int.reduceAdd, listD_s, tupleD_s, mulSD_s, small64_eq, decide_eq_true_eq, or_true, true_or, Int.reducePow, Int.reduceToNat, Int.reduceLE, Int.reduceLT, Int.reduceMul, Int.reduceEq, Int.zero_add, Nat.reducePow, Nat.reduceMul, Int.reduceAbs, rangeD_1, rangeD_2, rangeD_3, sortedD_l, maxLD_l, minLD_l, sumLD_l, reprD_1, ixD_ds, ixD_di, inD_ds, inD_di, notInD_ds, notInD_di, dictPD_l, intsOf_nil, intsOf_cons, Option.bind_some, List.max?_cons', List.min?_cons', List.foldl_cons, List.foldl_nil, kDictb_s, kDictb_int, Int.cast_ofNat_Int, upperD_eq, sortSetD_l, max3D_i, keyT_ii, keyT_ss, keyT_iis, inD_tii, notInD_tii, inD_tiis, notInD_tiis, ixD_tiis, cutS_S, S_cps, S_len', SX.S_len, SX.S_cat, S_mk, repS_S, inD_S, notInD_S, signD_S, ixD_S, cutG_none, cutG_but, cutD_G, bff, btt, bft, btf, boolD_i, boolD_b, neLD_c, neLD_n, eqLD_c, eqLD_n, inBD_eq, lit_0, lit_1, lit_2, lit_3, lit_4, lit_5, lit_6, lit_7, lit_8, lit_9, lit_10, lit_11, lit_12, lit_13, lit_14, lit_15, lit_16, lit_17, lit_18, lit_19, lit_20, $as,*]))
local macro_rules
  | `(tactic| simp_arith) => `(tactic| (try simp only [↓wx_0, ↓wx_s, ↓wv_fz, ↓wv_own, ↓wv_plc, ↓kView_fz, ↓kView_own, ↓kView_ref, ↓kView_rfz, ↓wf_fz, ↓wf_own, ↓wf_plc, ↓kFix_fz, ↓kFix_rfz, ↓kFix_own, ↓kFix_ref, ↓we_lit, ↓we_slot, ↓kSlot_fz, ↓kSlot_rfz, ↓kSlot_own, ↓kSlot_ref, ↓wa_nil, ↓wa_cons, ↓kCons1_eq, ↓kCons2_eq, ↓wvs_nil, ↓wvs_cons, ↓kVs1_eq, ↓kVs2_eq, ↓we_op2, ↓kOp2a_eq, ↓kOp2b_eq, ↓kOp2c_eq, ↓kOp2d_eq, ↓we_op1, ↓kOp1a_eq, ↓kOp1b_eq, ↓we_call, ↓kCalla_eq, ↓kCallb_eq, ↓wt_asT, ↓kAsT_eq, ↓wt_and, ↓wt_or, ↓wt_not, ↓kAnd_t, ↓kAnd_f, ↓kOr_t, ↓kOr_f, ↓kNot_eq, ↓we_eT, ↓kET_eq, ↓we_if, ↓kIfE_t, ↓kIfE_f, ↓we_chain, ↓kCh1_eq, ↓kCh2_eq, ↓kCh3_eq, ↓kCh4_eq, ↓kCh5_t, ↓kCh5_f, ↓wfs_nil, ↓wfs_cons, ↓kFs1_eq, ↓kFs2_eq, ↓we_tup, ↓we_lst, ↓kTup_eq, ↓kTupb_eq, ↓kLst_eq, ↓kLstb_eq, ↓we_dict, ↓kDict_eq, ↓kDictb_nil, ↓we_dictT, ↓kDictT_eq, ↓kDictTb_2, ↓wa_pairs0, ↓wa_pairs, ↓wo_no, ↓wo_sm, ↓kSm_eq, ↓we_sl, ↓kSl1_eq, ↓kSl2_eq, ↓kSl3_eq, ↓kSl4_eq, ↓we_m0, ↓we_m1, ↓kM0_eq, ↓kM1_eq, ↓kM1b_eq, ↓kM1c_eq, ↓wg_slot, ↓kGSlot_eq, ↓wgs_nil, ↓wgs_cons, ↓kGs_eq, ↓wg_unp, ↓wi_any, ↓kIAnyA_eq, ↓kIAny_l, ↓kIAny_t, ↓kIAny_s, ↓wi_r1, ↓wi_r2, ↓kR1_eq, ↓kR2_eq, ↓kR2a_eq, ↓we_lc, ↓kLc_eq, ↓kLcE_eq, ↓kLcF_eq, ↓kLcR_eq, ↓kLcT_eq, ↓kLcB_t, ↓kLcB_f, ↓wt_yes, ↓ws_skip, ↓ws_seq, ↓kSeq_nx, ↓kSeq_rt, ↓kSeq_bk, ↓kSeq_ct, ↓ws_expr, ↓kExpr_eq, ↓ws_set, ↓kSet_eq, ↓kSetL_eq, ↓kSetV_fz, ↓kSetV_own, ↓kSetV_plc, ↓kSetP_own, ↓kSetP_ref, ↓kSetP_fz, ↓ws_asg, ↓kAsg_fz, ↓kAsgB_eq, ↓ws_ret, ↓kRet_fz, ↓kRet_own, ↓kRet_plc, ↓kRetP_own, ↓kRetP_ref, ↓ws_retN, ↓ws_if, ↓kIf_t, ↓kIf_f, ↓ws_brk, ↓ws_cnt, ↓ws_for, ↓kFor_eq, ↓kLoop_nx, ↓kLoop_ct, ↓kLoop_bk, ↓kLoop_rt, ↓kBody_eq, ↓wl_eq, ↓kOwnL_own, ↓kOwnL_ref, ↓ws_setIx, ↓kSI1_eq, ↓kSI2_eq, ↓kSI3_eq, ↓kSI4_eq, ↓kSI5_eq, ↓we_app, ↓kAp0_eq, ↓kAp1_eq, ↓kAp2_eq, ↓kAp3_eq, ↓we_user, ↓kUsr_eq, ↓kUsr1_eq, ↓kUsr2_eq, ↓kUsr3_fz, ↓kUsr3_own, ↓warg_nil, ↓warg_fz, ↓warg_own, ↓warg_plc, ↓kArg1_eq, ↓kArg2_eq, ↓kArgP_own, ↓kArgP_ref, ↓kArgP_fz, ↓kArgP_rfz, ↓wc_run, ↓kRun_rt, ↓kRun_nx, ↓kRunR_fz, ↓kRunR_own, ↓wex_nil, ↓wex_fz, ↓wex_ref, ↓wex_rfz, ↓kEx_eq, ↓we_rev, ↓kRev0_eq, ↓kRev_l, ↓kRev_t, ↓wk_eq, ↓kOwnK_own, ↓kOwnK_ref, ↓ws_setKey, ↓kSK1_eq, ↓kSK2_eq, ↓kSK3_eq, ↓kSK4_s, ↓kSK4_i, ↓kSK5_eq, ↓kSK6_eq, ↓we_get1, ↓kG1_eq, ↓kG2_d, ↓kG3_eq, ↓kG4_d, ↓kG5_s, ↓kG5_i, ↓we_get2, ↓kH1_eq, ↓kH2_d, ↓kH3_eq, ↓kH3b_eq, ↓kH3c_eq, ↓kH4_d, ↓kH5_s, ↓kH5_i, ↓kWh_t, ↓kWh_f, ↓ws_while, ↓we_ext, ↓kEx0_eq, ↓kEx1_eq, ↓kEx3_eq, ↓kJ_nx, ↓kJ_rt, ↓kJ_bk, ↓kJ_ct, ↓kIs_eq, ↓kIsE_eq, ↓we_const, ↓wvx_lift, ↓kXL_eq, ↓wvx_user, ↓kXU_eq, ↓kXU1_eq, ↓kXU2_fz, ↓kXU2_own, ↓kXU2_ex, ↓wvx_call1, ↓kXE_ex, ↓kXE_val, ↓wsx_of, ↓kOf_eq, ↓wsx_set, ↓wsx_ret, ↓wsx_expr, ↓kXSt_ex, ↓kXSt_val, ↓wsx_seq, ↓kXSeq_nx, ↓kXSeq_rt, ↓kXSeq_ex, ↓wsx_if, ↓kXIf_t, ↓kXIf_f, ↓wsx_raise, ↓wsx_try, ↓kXTry_of, ↓kXTry_ex1, ↓ws_drop, ↓kDrop_of, ↓kRunX_fz, ↓kRunX_own, ↓kRunX_ex, ↓kRunXE_eq, ↓kRunXV_eq, ↓wvx_lc, ↓kXLc_ex, ↓kXLc_val, ↓kXLc1_eq, ↓kXLcE_val, ↓kXLcE_ex, ↓wsx_for, ↓kXFor_eq, ↓wi_zip, ↓kZip_eq, ↓kZipb_t, ↓kZipb_l, ↓we_kget, ↓kKG1_eq, ↓kKG2_eq, ↓kKG3_s, ↓we_repL, ↓kRep1_eq, ↓kRep2_eq, ↓kTwo1_eq, ↓kTwo2_eq, ↓we_pop0, ↓kPop0_eq, ↓we_rvs, ↓kRvs_eq, ↓we_clr, ↓kClr_eq, ↓we_ins, ↓kIns0_eq, ↓kIns1_eq, ↓kIns2_eq, ↓kIns3_eq, ↓kIns4_eq, ↓we_lrg, ↓kLR1_eq, ↓kLR2_eq, ↓ws_par, ↓kPar_eq, ↓kParb_eq, ↓kParc_eq, ↓ws_setKeyT, ↓kST1_eq, ↓kST2_eq, ↓kST3_eq, ↓kST4_eq, ↓kST4b_eq, ↓kST5_eq, ↓kST6_eq, ↓wi_enum, ↓kEnum_eq, ↓kEnumB_l, ↓kEnumB_t, ↓we_minN, ↓kMN1_eq, ↓kMN2_0, ↓kMN2_s, ↓ws_asgF, ↓kAsgF_eq, ↓kAsgG_eq, ↓wg_unl, ↓we_kix, ↓kKI1_eq, ↓kKI2_s, ↓ws_setKeyB, ↓kSB1_eq, ↓kSB2_eq, ↓kSB3_eq, ↓kSB4_eq, ↓kSB4_0, ↓wi_keys, ↓kKeys_fz, ↓kKeys_rfz, ↓kKeys_own, ↓kKeys_ref, ↓we_idx, ↓kIX1_eq, ↓kIX2_l, ↓kIX3_eq, ↓kIX4_l, ↓wi_zipM, ↓kZipM_eq, ↓kZipMb_tl, wp_some, backSVs_nil, backSVs_cons, lock_unb, lock_fz, lock_own, plain_fz, plain_own, enter_fz, enter_own, put_ownE, put_refE, back_oo, back_of, back_ro, back_rf, back_fz, back_rfz, freeze_own, freeze_ref, freeze_fz, backAt_eq, findSV_nil, findSV_nil2, findSV_plc, findSV_fz, findSV_own, apart_nil, apart_fz, apart_own, apart_plc, placed_nil, placed_fz, placed_own, placed_plc, wipeE_nil, wipeE_cons, backE_nil, backE_cons, unlocked_nil, unlocked_cons, List.set_cons_zero, List.set_cons_succ, List.getD_cons_zero, List.getD_cons_succ, List.getElem?_cons_zero, List.getElem?_cons_succ, List.map_cons, List.map_nil, List.cons_append, List.nil_append, List.replicate_succ, List.replicate_zero, List.length_cons, List.length_nil, List.all_cons, List.all_nil, Nat.reduceSub, Nat.reduceAdd, Nat.reduceLeDiff, Nat.reduceEqDiff, Nat.reduceLT, Nat.zero_add, Bool.not_true, Bool.not_false, Bool.and_true, Bool.true_and, Bool.and_self, and_true, true_and, if_true, reduceIte, reduceCtorEq, decide_true, decide_false, Bool.false_eq_true, Bool.or_false, Bool.or_true, Bool.false_or, Bool.true_or, Bool.and_false, Bool.false_and, Nat.le_refl, lineN, Nat.one_ne_zero, Nat.zero_ne_one, mulRD_i, mulRD_s, mulRD_t, addD_i, subD_i, negD_i, cmpI_i, eqD_i, neD_i, eqD_s, neD_s, eqD_b, neD_b, isD_n, isD_b, isNotD_n, isNotD_b, isBool_b, isNone_n, isNone_b, isNone_i, isNone_s, isNone_l, isNone_t, isNone_d, isi_eq, lenD_l, lenD_t, absD_n, maxD_m, minD_m, intD_i, listD_l, listD_t, tupleD_l, tupleD_t, isiB, mulSD_i, divD_i, modD_i, powD_i, ixD_l, ixD_t, ixD_s, slD_l, slD_t, slD_s, lenD_s, addD_s, addD_l, addD_t, strD_i, wp_bind, wp_guard, atI_0, atI_1, atI_2, atI_3, atI_4, ixN_0, ixN_1, ixN_2, Int.reduceNeg, Int.reduceSub, Int.reduceAdd, listD_s, tupleD_s, mulSD_s, small64_eq, decide_eq_true_eq, or_true, true_or, Int.reducePow, Int.reduceToNat, Int.reduceLE, Int.reduceLT, Int.reduceMul, Int.reduceEq, Int.zero_add, Nat.reducePow, Nat.reduceMul, Int.reduceAbs, rangeD_1, rangeD_2, rangeD_3, sortedD_l, maxLD_l, minLD_l, sumLD_l, reprD_1, ixD_ds, ixD_di, inD_ds, inD_di, notInD_ds, notInD_di, dictPD_l, intsOf_nil, intsOf_cons, Option.bind_some, List.max?_cons', List.min?_cons', List.foldl_cons, List.foldl_nil, kDictb_s, kDictb_int, Int.cast_ofNat_Int, upperD_eq, sortSetD_l, max3D_i, keyT_ii, keyT_ss, keyT_iis, inD_tii, notInD_tii, inD_tiis, notInD_tiis, ixD_tiis, cutS_S, S_cps, S_len', SX.S_len, SX.S_cat, S_mk, repS_S, inD_S, notInD_S, signD_S, ixD_S, cutG_none, cutG_but, cutD_G, bff, btt, bft, btf, boolD_i, boolD_b, neLD_c, neLD_n, eqLD_c, eqLD_n, inBD_eq, lit_0, lit_1, lit_2, lit_3, lit_4, lit_5, lit_6, lit_7, lit_8, lit_9, lit_10, lit_11, lit_12, lit_13, lit_14, lit_15, lit_16, lit_17, lit_18, lit_19, lit_20]))
local macro_rules
  | `(tactic| simp_arith! [$as,*]) => `(tactic| (try simp only [↓wx_0, ↓wx_s, ↓wv_fz, ↓wv_own, ↓wv_plc, ↓kView_fz, ↓kView_own, ↓kView_ref, ↓kView_rfz, ↓wf_fz, ↓wf_own, ↓wf_plc, ↓kFix_fz, ↓kFix_rfz, ↓kFix_own, ↓kFix_ref, ↓we_lit, ↓we_slot, ↓kSlot_fz, ↓kSlot_rfz, ↓kSlot_own, ↓kSlot_ref, ↓wa_nil, ↓wa_cons, ↓kCons1_eq, ↓kCons2_eq, ↓wvs_nil, ↓wvs_cons, ↓kVs1_eq, ↓kVs2_eq, ↓we_op2, ↓kOp2a_eq, ↓kOp2b_eq, ↓kOp2c_eq, ↓kOp2d_eq, ↓we_op1, ↓kOp1a_eq, ↓kOp1b_eq, ↓we_call, ↓kCalla_eq, ↓kCallb_eq, ↓wt_asT, ↓kAsT_eq, ↓wt_and, ↓wt_or, ↓wt_not, ↓kAnd_t, ↓kAnd_f, ↓kOr_t, ↓kOr_f, ↓kNot_eq, ↓we_eT, ↓kET_eq, ↓we_if, ↓kIfE_t, ↓kIfE_f, ↓we_chain, ↓kCh1_eq, ↓kCh2_eq, ↓kCh3_eq, ↓kCh4_eq, ↓kCh5_t, ↓kCh5_f, ↓wfs_nil, ↓wfs_cons, ↓kFs1_eq, ↓kFs2_eq, ↓we_tup, ↓we_lst, ↓kTup_eq, ↓kTupb_eq, ↓kLst_eq, ↓kLstb_eq, ↓we_dict, ↓kDict_eq, ↓kDictb_nil, ↓we_dictT, ↓kDictT_eq, ↓kDictTb_2, ↓wa_pairs0, ↓wa_pairs, ↓wo_no, ↓wo_sm, ↓kSm_eq, ↓we_sl, ↓kSl1_eq, ↓kSl2_eq, ↓kSl3_eq, ↓kSl4_eq, ↓we_m0, ↓we_m1, ↓kM0_eq, ↓kM1_eq, ↓kM1b_eq, ↓kM1c_eq, ↓wg_slot, ↓kGSlot_eq, ↓wgs_nil, ↓wgs_cons, ↓kGs_eq, ↓wg_unp, ↓wi_any, ↓kIAnyA_eq, ↓kIAny_l, ↓kIAny_t, ↓kIAny_s, ↓wi_r1, ↓wi_r2, ↓kR1_eq, ↓kR2_eq, ↓kR2a_eq, ↓we_lc, ↓kLc_eq, ↓kLcE_eq, ↓kLcF_eq, ↓kLcR_eq, ↓kLcT_eq, ↓kLcB_t, ↓kLcB_f, ↓wt_yes, ↓ws_skip, ↓ws_seq, ↓kSeq_nx, ↓kSeq_rt, ↓kSeq_bk, ↓kSeq_ct, ↓ws_expr, ↓kExpr_eq, ↓ws_set, ↓kSet_eq, ↓kSetL_eq, ↓kSetV_fz, ↓kSetV_own, ↓kSetV_plc, ↓kSetP_own, ↓kSetP_ref, ↓kSetP_fz, ↓ws_asg, ↓kAsg_fz, ↓kAsgB_eq, ↓ws_ret, ↓kRet_fz, ↓kRet_own, ↓kRet_plc, ↓kRetP_own, ↓kRetP_ref, ↓ws_retN, ↓ws_if, ↓kIf_t, ↓kIf_f, ↓ws_brk, ↓ws_cnt, ↓ws_for, ↓kFor_eq, ↓kLoop_nx, ↓kLoop_ct, ↓kLoop_bk, ↓kLoop_rt, ↓kBody_eq, ↓wl_eq, ↓kOwnL_own, ↓kOwnL_ref, ↓ws_setIx, ↓kSI1_eq, ↓kSI2_eq, ↓kSI3_eq, ↓kSI4_eq, ↓kSI5_eq, ↓we_app, ↓kAp0_eq, ↓kAp1_eq, ↓kAp2_eq, ↓kAp3_eq, ↓we_user, ↓kUsr_eq, ↓kUsr1_eq, ↓kUsr2_eq, ↓kUsr3_fz, ↓kUsr3_own, ↓warg_nil, ↓warg_fz, ↓warg_own, ↓warg_plc, ↓kArg1_eq, ↓kArg2_eq, ↓kArgP_own, ↓kArgP_ref, ↓kArgP_fz, ↓kArgP_rfz, ↓wc_run, ↓kRun_rt, ↓kRun_nx, ↓kRunR_fz, ↓kRunR_own, ↓wex_nil, ↓wex_fz, ↓wex_ref, ↓wex_rfz, ↓kEx_eq, ↓we_rev, ↓kRev0_eq, ↓kRev_l, ↓kRev_t, ↓wk_eq, ↓kOwnK_own, ↓kOwnK_ref, ↓ws_setKey, ↓kSK1_eq, ↓kSK2_eq, ↓kSK3_eq, ↓kSK4_s, ↓kSK4_i, ↓kSK5_eq, ↓kSK6_eq, ↓we_get1, ↓kG1_eq, ↓kG2_d, ↓kG3_eq, ↓kG4_d, ↓kG5_s, ↓kG5_i, ↓we_get2, ↓kH1_eq, ↓kH2_d, ↓kH3_eq, ↓kH3b_eq, ↓kH3c_eq, ↓kH4_d, ↓kH5_s, ↓kH5_i, ↓kWh_t, ↓kWh_f, ↓ws_while, ↓we_ext, ↓kEx0_eq, ↓kEx1_eq, ↓kEx3_eq, ↓kJ_nx, ↓kJ_rt, ↓kJ_bk, ↓kJ_ct, ↓kIs_eq, ↓kIsE_eq, ↓we_const, ↓wvx_lift, ↓kXL_eq, ↓wvx_user, ↓kXU_eq, ↓kXU1_eq, ↓kXU2_fz, ↓kXU2_own, ↓kXU2_ex, ↓wvx_call1, ↓kXE_ex, ↓kXE_val, ↓wsx_of, ↓kOf_eq, ↓wsx_set, ↓wsx_ret, ↓wsx_expr, ↓kXSt_ex, ↓kXSt_val, ↓wsx_seq, ↓kXSeq_nx, ↓kXSeq_rt, ↓kXSeq_ex, ↓wsx_if, ↓kXIf_t, ↓kXIf_f, ↓wsx_raise, ↓wsx_try, ↓kXTry_of, ↓kXTry_ex1, ↓ws_drop, ↓kDrop_of, ↓kRunX_fz, ↓kRunX_own, ↓kRunX_ex, ↓kRunXE_eq, ↓kRunXV_eq, ↓wvx_lc, ↓kXLc_ex, ↓kXLc_val, ↓kXLc1_eq, ↓kXLcE_val, ↓kXLcE_ex, ↓wsx_for, ↓kXFor_eq, ↓wi_zip, ↓kZip_eq, ↓kZipb_t, ↓kZipb_l, ↓we_kget, ↓kKG1_eq, ↓kKG2_eq, ↓kKG3_s, ↓we_repL, ↓kRep1_eq, ↓kRep2_eq, ↓kTwo1_eq, ↓kTwo2_eq, ↓we_pop0, ↓kPop0_eq, ↓we_rvs, ↓kRvs_eq, ↓we_clr, ↓kClr_eq, ↓we_ins, ↓kIns0_eq, ↓kIns1_eq, ↓kIns2_eq, ↓kIns3_eq, ↓kIns4_eq, ↓we_lrg, ↓kLR1_eq, ↓kLR2_eq, ↓ws_par, ↓kPar_eq, ↓kParb_eq, ↓kParc_eq, ↓ws_setKeyT, ↓kST1_eq, ↓kST2_eq, ↓kST3_eq, ↓kST4_eq, ↓kST4b_eq, ↓kST5_eq, ↓kST6_eq, ↓wi_enum, ↓kEnum_eq, ↓kEnumB_l, ↓kEnumB_t, ↓we_minN, ↓kMN1_eq, ↓kMN2_0, ↓kMN2_s, ↓ws_asgF, ↓kAsgF_eq, ↓kAsgG_eq, ↓wg_unl, ↓we_kix, ↓kKI1_eq, ↓kKI2_s, ↓ws_setKeyB, ↓kSB1_eq, ↓kSB2_eq, ↓kSB3_eq, ↓kSB4_eq, ↓kSB4_0, ↓wi_keys, ↓kKeys_fz, ↓kKeys_rfz, ↓kKeys_own, ↓kKeys_ref, ↓we_idx, ↓kIX1_eq, ↓kIX2_l, ↓kIX3_eq, ↓kIX4_l, ↓wi_zipM, ↓kZipM_eq, ↓kZipMb_tl, wp_some, backSVs_nil, backSVs_cons, lock_unb, lock_fz, lock_own, plain_fz, plain_own, enter_fz, enter_own, put_ownE, put_refE, back_oo, back_of, back_ro, back_rf, back_fz, back_rfz, freeze_own, freeze_ref, freeze_fz, backAt_eq, findSV_nil, findSV_nil2, findSV_plc, findSV_fz, findSV_own, apart_nil, apart_fz, apart_own, apart_plc, placed_nil, placed_fz, placed_own, placed_plc, wipeE_nil, wipeE_cons, backE_nil, backE_cons, unlocked_nil, unlocked_cons, List.set_cons_zero, List.set_cons_succ, List.getD_cons_zero, List.getD_cons_succ, List.getElem?_cons_zero, List.getElem?_cons_succ, List.map_cons, List.map_nil, List.cons_append, List.nil_append, List.replicate_succ, List.replicate_zero, List.length_cons, List.length_nil, List.all_cons, List.all_nil, Nat.reduceSub, Nat.reduceAdd, Nat.reduceLeDiff, Nat.reduceEqDiff, Nat.reduceLT, Nat.zero_add, Bool.not_true, Bool.not_false, Bool.and_true, Bool.true_and, Bool.and_self, and_true, true_and, if_true, reduceIte, reduceCtorEq, decide_true, decide_false, Bool.false_eq_true, Bool.or_false, Bool.or_true, Bool.false_or, Bool.true_or, Bool.and_false, Bool.false_and, Nat.le_refl, lineN, Nat.one_ne_zero, Nat.zero_ne_one, $as,*]))
local macro_rules
  | `(tactic| simp_arith!) => `(tactic| (try simp only [↓wx_0, ↓wx_s, ↓wv_fz, ↓wv_own, ↓wv_plc, ↓kView_fz, ↓kView_own, ↓kView_ref, ↓kView_rfz, ↓wf_fz, ↓wf_own, ↓wf_plc, ↓kFix_fz, ↓kFix_rfz, ↓kFix_own, ↓kFix_ref, ↓we_lit, ↓we_slot, ↓kSlot_fz, ↓kSlot_rfz, ↓kSlot_own, ↓kSlot_ref, ↓wa_nil, ↓wa_cons, ↓kCons1_eq, ↓kCons2_eq, ↓wvs_nil, ↓wvs_cons, ↓kVs1_eq, ↓kVs2_eq, ↓we_op2, ↓kOp2a_eq, ↓kOp2b_eq, ↓kOp2c_eq, ↓kOp2d_eq, ↓we_op1, ↓kOp1a_eq, ↓kOp1b_eq, ↓we_call, ↓kCalla_eq, ↓kCallb_eq, ↓wt_asT, ↓kAsT_eq, ↓wt_and, ↓wt_or, ↓wt_not, ↓kAnd_t, ↓kAnd_f, ↓kOr_t, ↓kOr_f, ↓kNot_eq, ↓we_eT, ↓kET_eq, ↓we_if, ↓kIfE_t, ↓kIfE_f, ↓we_chain, ↓kCh1_eq, ↓kCh2_eq, ↓kCh3_eq, ↓kCh4_eq, ↓kCh5_t, ↓kCh5_f, ↓wfs_nil, ↓wfs_cons, ↓kFs1_eq, ↓kFs2_eq, ↓we_tup, ↓we_lst, ↓kTup_eq, ↓kTupb_eq, ↓kLst_eq, ↓kLstb_eq, ↓we_dict, ↓kDict_eq, ↓kDictb_nil, ↓we_dictT, ↓kDictT_eq, ↓kDictTb_2, ↓wa_pairs0, ↓wa_pairs, ↓wo_no, ↓wo_sm, ↓kSm_eq, ↓we_sl, ↓kSl1_eq, ↓kSl2_eq, ↓kSl3_eq, ↓kSl4_eq, ↓we_m0, ↓we_m1, ↓kM0_eq, ↓kM1_eq, ↓kM1b_eq, ↓kM1c_eq, ↓wg_slot, ↓kGSlot_eq, ↓wgs_nil, ↓wgs_cons, ↓kGs_eq, ↓wg_unp, ↓wi_any, ↓kIAnyA_eq, ↓kIAny_l, ↓kIAny_t, ↓kIAny_s, ↓wi_r1, ↓wi_r2, ↓kR1_eq, ↓kR2_eq, ↓kR2a_eq, ↓we_lc, ↓kLc_eq, ↓kLcE_eq, ↓kLcF_eq, ↓kLcR_eq, ↓kLcT_eq, ↓kLcB_t, ↓kLcB_f, ↓wt_yes, ↓ws_skip, ↓ws_seq, ↓kSeq_nx, ↓kSeq_rt, ↓kSeq_bk, ↓kSeq_ct, ↓ws_expr, ↓kExpr_eq, ↓ws_set, ↓kSet_eq, ↓kSetL_eq, ↓kSetV_fz, ↓kSetV_own, ↓kSetV_plc, ↓kSetP_own, ↓kSetP_ref, ↓kSetP_fz, ↓ws_asg, ↓kAsg_fz, ↓kAsgB_eq, ↓ws_ret, ↓kRet_fz, ↓kRet_own, ↓kRet_plc, ↓kRetP_own, ↓kRetP_ref, ↓ws_retN, ↓ws_if, ↓kIf_t, ↓kIf_f, ↓ws_brk, ↓ws_cnt, ↓ws_for, ↓kFor_eq, ↓kLoop_nx, ↓kLoop_ct, ↓kLoop_bk, ↓kLoop_rt, ↓kBody_eq, ↓wl_eq, ↓kOwnL_own, ↓kOwnL_ref, ↓ws_setIx, ↓kSI1_eq, ↓kSI2_eq, ↓kSI3_eq, ↓kSI4_eq, ↓kSI5_eq, ↓we_app, ↓kAp0_eq, ↓kAp1_eq, ↓kAp2_eq, ↓kAp3_eq, ↓we_user, ↓kUsr_eq, ↓kUsr1_eq, ↓kUsr2_eq, ↓kUsr3_fz, ↓kUsr3_own, ↓warg_nil, ↓warg_fz, ↓warg_own, ↓warg_plc, ↓kArg1_eq, ↓kArg2_eq, ↓kArgP_own, ↓kArgP_ref, ↓kArgP_fz, ↓kArgP_rfz, ↓wc_run, ↓kRun_rt, ↓kRun_nx, ↓kRunR_fz, ↓kRunR_own, ↓wex_nil, ↓wex_fz, ↓wex_ref, ↓wex_rfz, ↓kEx_eq, ↓we_rev, ↓kRev0_eq, ↓kRev_l, ↓kRev_t, ↓wk_eq, ↓kOwnK_own, ↓kOwnK_ref, ↓ws_setKey, ↓kSK1_eq, ↓kSK2_eq, ↓kSK3_eq, ↓kSK4_s, ↓kSK4_i, ↓kSK5_eq, ↓kSK6_eq, ↓we_get1, ↓kG1_eq, ↓kG2_d, ↓kG3_eq, ↓kG4_d, ↓kG5_s, ↓kG5_i, ↓we_get2, ↓kH1_eq, ↓kH2_d, ↓kH3_eq, ↓kH3b_eq, ↓kH3c_eq, ↓kH4_d, ↓kH5_s, ↓kH5_i, ↓kWh_t, ↓kWh_f, ↓ws_while, ↓we_ext, ↓kEx0_eq, ↓kEx1_eq, ↓kEx3_eq, ↓kJ_nx, ↓kJ_rt, ↓kJ_bk, ↓kJ_ct, ↓kIs_eq, ↓kIsE_eq, ↓we_const, ↓wvx_lift, ↓kXL_eq, ↓wvx_user, ↓kXU_eq, ↓kXU1_eq, ↓kXU2_fz, ↓kXU2_own, ↓kXU2_ex, ↓wvx_call1, ↓kXE_ex, ↓kXE_val, ↓wsx_of, ↓kOf_eq, ↓wsx_set, ↓wsx_ret, ↓wsx_expr, ↓kXSt_ex, ↓kXSt_val, ↓wsx_seq, ↓kXSeq_nx, ↓kXSeq_rt, ↓kXSeq_ex, ↓wsx_if, ↓kXIf_t, ↓kXIf_f, ↓wsx_raise, ↓wsx_try, ↓kXTry_of, ↓kXTry_ex1, ↓ws_drop, ↓kDrop_of, ↓kRunX_fz, ↓kRunX_own, ↓kRunX_ex, ↓kRunXE_eq, ↓kRunXV_eq, ↓wvx_lc, ↓kXLc_ex, ↓kXLc_val, ↓kXLc1_eq, ↓kXLcE_val, ↓kXLcE_ex, ↓wsx_for, ↓kXFor_eq, ↓wi_zip, ↓kZip_eq, ↓kZipb_t, ↓kZipb_l, ↓we_kget, ↓kKG1_eq, ↓kKG2_eq, ↓kKG3_s, ↓we_repL, ↓kRep1_eq, ↓kRep2_eq, ↓kTwo1_eq, ↓kTwo2_eq, ↓we_pop0, ↓kPop0_eq, ↓we_rvs, ↓kRvs_eq, ↓we_clr, ↓kClr_eq, ↓we_ins, ↓kIns0_eq, ↓kIns1_eq, ↓kIns2_eq, ↓kIns3_eq, ↓kIns4_eq, ↓we_lrg, ↓kLR1_eq, ↓kLR2_eq, ↓ws_par, ↓kPar_eq, ↓kParb_eq, ↓kParc_eq, ↓ws_setKeyT, ↓kST1_eq, ↓kST2_eq, ↓kST3_eq, ↓kST4_eq, ↓kST4b_eq, ↓kST5_eq, ↓kST6_eq, ↓wi_enum, ↓kEnum_eq, ↓kEnumB_l, ↓kEnumB_t, ↓we_minN, ↓kMN1_eq, ↓kMN2_0, ↓kMN2_s, ↓ws_asgF, ↓kAsgF_eq, ↓kAsgG_eq, ↓wg_unl, ↓we_kix, ↓kKI1_eq, ↓kKI2_s, ↓ws_setKeyB, ↓kSB1_eq, ↓kSB2_eq, ↓kSB3_eq, ↓kSB4_eq, ↓kSB4_0, ↓wi_keys, ↓kKeys_fz, ↓kKeys_rfz, ↓kKeys_own, ↓kKeys_ref, ↓we_idx, ↓kIX1_eq, ↓kIX2_l, ↓kIX3_eq, ↓kIX4_l, ↓wi_zipM, ↓kZipM_eq, ↓kZipMb_tl, wp_some, backSVs_nil, backSVs_cons, lock_unb, lock_fz, lock_own, plain_fz, plain_own, enter_fz, enter_own, put_ownE, put_refE, back_oo, back_of, back_ro, back_rf, back_fz, back_rfz, freeze_own, freeze_ref, freeze_fz, backAt_eq, findSV_nil, findSV_nil2, findSV_plc, findSV_fz, findSV_own, apart_nil, apart_fz, apart_own, apart_plc, placed_nil, placed_fz, placed_own, placed_plc, wipeE_nil, wipeE_cons, backE_nil, backE_cons, unlocked_nil, unlocked_cons, List.set_cons_zero, List.set_cons_succ, List.getD_cons_zero, List.getD_cons_succ, List.getElem?_cons_zero, List.getElem?_cons_succ, List.map_cons, List.map_nil, List.cons_append, List.nil_append, List.replicate_succ, List.replicate_zero, List.length_cons, List.length_nil, List.all_cons, List.all_nil, Nat.reduceSub, Nat.reduceAdd, Nat.reduceLeDiff, Nat.reduceEqDiff, Nat.reduceLT, Nat.zero_add, Bool.not_true, Bool.not_false, Bool.and_true, Bool.true_and, Bool.and_self, and_true, true_and, if_true, reduceIte, reduceCtorEq, decide_true, decide_false, Bool.false_eq_true, Bool.or_false, Bool.or_true, Bool.false_or, Bool.true_or, Bool.and_false, Bool.false_and, Nat.le_refl, lineN, Nat.one_ne_zero, Nat.zero_ne_one]))

/-! what is a spot, a box: of any data -/
def nearB : PyData → Bool
  | .int i => decide ((i.natAbs : Int) < 1000000000000)
  | _ => false
theorem nearB_int (i : Int) : nearB (.int i) = decide ((i.natAbs : Int) < 1000000000000) := by unfold nearB; rfl
theorem nearB_is {d : PyData} (h : nearB d = true) : ∃ i : Int, d = .int i ∧ (i.natAbs : Int) < 1000000000000 := by
  unfold nearB at h
  split at h
  · exact ⟨_, rfl, of_decide_eq_true h⟩
  · cases h
def spotB : PyData → Bool
  | .tuple [a, b] => nearB a && nearB b
  | _ => false
def leB : PyData → PyData → Bool
  | .tuple [.int a, .int b], .tuple [.int c, .int d] => decide (a ≤ c) && decide (b ≤ d)
  | _, _ => false
theorem leB_tt (a b c d : Int) : leB (.tuple [.int a, .int b]) (.tuple [.int c, .int d]) = (decide (a ≤ c) && decide (b ≤ d)) := by unfold leB; rfl
def boxB : PyData → Bool
  | .tuple [a, b] => spotB a && spotB b && leB a b
  | _ => false
def szT : PyData → Prop
  | .tuple xs => xs.length ≤ lineN
  | _ => True
def szB : PyData → Prop
  | .tuple xs => xs.length ≤ lineN ∧ ∀ x ∈ xs, szT x
  | _ => True
theorem boxB_bad {a b : PyData} (h : spotB a = false ∨ spotB b = false) : boxB (.tuple [a, b]) = false := by
  show (spotB a && spotB b && leB a b) = false
  rcases h with h | h <;> simp [h]
theorem spotB_is {d : PyData} (h : spotB d = true) : ∃ a b : Int, d = .tuple [.int a, .int b] ∧ (a.natAbs : Int) < 1000000000000 ∧ (b.natAbs : Int) < 1000000000000 := by
  unfold spotB at h
  split at h
  · rename_i a b
    rw [Bool.and_eq_true] at h
    obtain ⟨h1, h2⟩ := h
    obtain ⟨x, rfl, q1⟩ := nearB_is h1
    obtain ⟨y, rfl, q2⟩ := nearB_is h2
    exact ⟨_, _, rfl, q1, q2⟩
  · cases h
theorem nearB_t {l : List PyData} : nearB (.tuple l) = false := by unfold nearB; rfl
theorem spotB_2 {a b : PyData} : spotB (.tuple [a, b]) = (nearB a && nearB b) := by unfold spotB; rfl
theorem spotB_0 : spotB (.tuple []) = false := by unfold spotB; rfl
theorem spotB_1 {a : PyData} : spotB (.tuple [a]) = false := by unfold spotB; rfl
theorem spotB_3 {a b c : PyData} {l : List PyData} : spotB (.tuple (a :: b :: c :: l)) = false := by unfold spotB; rfl
theorem spotB_n {d : PyData} (h : ∀ l, d ≠ .tuple l) : spotB d = false := by
  unfold spotB
  split
  · exact absurd rfl (h _)
  · rfl
theorem boxB_2 {a b : PyData} : boxB (.tuple [a, b]) = (spotB a && spotB b && leB a b) := by unfold boxB; rfl
theorem boxB_0 : boxB (.tuple []) = false := by unfold boxB; rfl
theorem boxB_1 {a : PyData} : boxB (.tuple [a]) = false := by unfold boxB; rfl
theorem boxB_3 {a b c : PyData} {l : List PyData} : boxB (.tuple (a :: b :: c :: l)) = false := by unfold boxB; rfl
theorem boxB_n {d : PyData} (h : ∀ l, d ≠ .tuple l) : boxB d = false := by
  unfold boxB
  split
  · exact absurd rfl (h _)
  · rfl
theorem spotB_l {l : List PyData} : spotB (.list l) = false := spotB_n (by intro l z; cases z)
theorem spotB_i {i : Int} : spotB (.int i) = false := spotB_n (by intro l z; cases z)
theorem spotB_t {a b : List PyData} : spotB (.tuple [.tuple a, .tuple b]) = false := by rw [spotB_2, nearB_t, Bool.false_and]
theorem leB_up1 {x y u v : Int} (h : y < x) : leB (.tuple [.int x, .int u]) (.tuple [.int y, .int v]) = false := by
  rw [leB_tt, decide_eq_false (by omega), Bool.false_and]
theorem leB_up2 {x y u v : Int} (h : v < u) : leB (.tuple [.int x, .int u]) (.tuple [.int y, .int v]) = false := by
  rw [leB_tt, decide_eq_false (p := u ≤ v) (by omega), Bool.and_false]

/-! sizes -/
theorem wt_mem : ∀ {ds : List PyData} {x : PyData}, x ∈ ds → wt x ≤ wtAll ds
  | d :: ds, x, h => by
    rw [wtAll]
    rcases List.mem_cons.mp h with rfl | h
    · omega
    · have := wt_mem h
      omega
theorem wt_len : ∀ ds : List PyData, ds.length ≤ wtAll ds
  | [] => by simp [wtAll]
  | d :: ds => by
    have := wt_len ds
    rw [wtAll, List.length_cons]
    omega
theorem szB_wt {d : PyData} (h : wt d ≤ lineN) : szB d := by
  unfold szB
  split
  · rename_i xs
    rw [wt] at h
    have h1 := wt_len xs
    refine ⟨by omega, fun x hx => ?_⟩
    have h2 := wt_mem hx
    unfold szT
    split
    · rename_i ys
      rw [wt] at h2
      have h3 := wt_len ys
      omega
    · trivial
  · trivial
theorem szT_wt {d : PyData} (h : wt d ≤ lineN) : szT d := by
  unfold szT
  split
  · rename_i xs
    rw [wt] at h
    have h1 := wt_len xs
    omega
  · trivial
/-! what is listed -/
def listD : PyData → Option (List PyData)
  | .list ds => some ds
  | .tuple ds => some ds
  | _ => none
def listedD (a b : Int) (d : PyData) : Option (List PyData) := (listD d).bind fun ds => if a ≤ (ds.length : Int) ∧ (ds.length : Int) ≤ b then some ds else none
theorem listD_wt {d : PyData} {ds : List PyData} (h : listD d = some ds) : wtAll ds ≤ wt d := by
  unfold listD at h
  split at h <;> cases h
  · rw [wt]; omega
  · rw [wt]; omega
/-! a box, of lists or tuples -/
def partD (p : PyData) : Option PyData := (listedD 2 2 p).map .tuple
def boxOfD (d : PyData) : Option PyData := (listedD 2 2 d).bind fun ds => (mapO partD ds).bind fun bs => if boxB (.tuple bs) = true then some (.tuple bs) else none
theorem mem_wt {d : PyData} {ds : List PyData} {a b : Int} (h : listedD a b d = some ds) {p : PyData} (hp : p ∈ ds) : wt p ≤ wt d := by
  unfold listedD at h
  obtain ⟨l, e, h⟩ := bind_some h
  split at h <;> cases h
  have := listD_wt e
  have := wt_mem hp
  omega
theorem len_listed {d : PyData} {ds : List PyData} {a b : Int} (h : listedD a b d = some ds) : a ≤ (ds.length : Int) ∧ (ds.length : Int) ≤ b := by
  unfold listedD at h
  obtain ⟨l, e, h⟩ := bind_some h
  split at h <;> cases h
  assumption
theorem mapO_length {f : PyData → Option PyData} : ∀ {ds bs : List PyData}, mapO f ds = some bs → bs.length = ds.length
  | [], _, h => by cases h; rfl
  | d :: ds, _, h => by
    obtain ⟨b, _, h⟩ := bind_some h
    obtain ⟨bs, e, h⟩ := bind_some h
    cases h
    rw [List.length_cons, List.length_cons, mapO_length e]
theorem mapO_mem {f : PyData → Option PyData} : ∀ {ds bs : List PyData} {b : PyData}, mapO f ds = some bs → b ∈ bs → ∃ d ∈ ds, f d = some b
  | [], _, _, h, hb => by cases h; cases hb
  | d :: ds, _, b, h, hb => by
    obtain ⟨b0, e0, h⟩ := bind_some h
    obtain ⟨bs, e, h⟩ := bind_some h
    cases h
    rcases List.mem_cons.mp hb with rfl | hb
    · exact ⟨d, List.mem_cons_self, e0⟩
    · obtain ⟨d', h1, h2⟩ := mapO_mem e hb
      exact ⟨d', List.mem_cons_of_mem _ h1, h2⟩
theorem wtT_of {ds : List PyData} {d : PyData} {a b : Int} (h : listedD a b d = some ds) : wt (.tuple ds) ≤ wt d + 1 := by
  unfold listedD at h
  obtain ⟨l, e, h⟩ := bind_some h
  split at h <;> cases h
  have := listD_wt e
  unfold listD at e
  split at e <;> cases e
  · rw [wt, wt]; omega
  · omega
theorem wt_part {p b : PyData} (h : partD p = some b) : wt b ≤ wt p + 1 := by
  unfold partD at h
  obtain ⟨ds, e, rfl⟩ := Option.map_eq_some_iff.mp h
  exact wtT_of e
theorem wtAll_parts : ∀ {ds bs : List PyData}, mapO partD ds = some bs → wtAll bs ≤ wtAll ds + ds.length
  | [], _, h => by cases h; simp [wtAll]
  | d :: ds, _, h => by
    obtain ⟨b, e0, h⟩ := bind_some h
    obtain ⟨bs, e, h⟩ := bind_some h
    cases h
    have h1 := wt_part e0
    have h2 := wtAll_parts e
    rw [wtAll, wtAll, List.length_cons]
    omega
/-! boxes and spots -/
def pairD (p : Int × Int) : PyData := .tuple [.int p.1, .int p.2]
def boxD (b : (Int × Int) × (Int × Int)) : PyData := .tuple [pairD b.1, pairD b.2]
theorem ix_pair0 (p : Int × Int) : ixD (pairD p) (.int 0) = some (.fz (.int p.1)) := by unfold pairD; rw [ixD_t, atI_0]; rfl
theorem ix_pair1 (p : Int × Int) : ixD (pairD p) (.int 1) = some (.fz (.int p.2)) := by unfold pairD; rw [ixD_t, atI_1]; rfl
theorem ix_box0 (b : (Int × Int) × (Int × Int)) : ixD (boxD b) (.int 0) = some (.fz (pairD b.1)) := by unfold boxD; rw [ixD_t, atI_0]; rfl
theorem ix_box1 (b : (Int × Int) × (Int × Int)) : ixD (boxD b) (.int 1) = some (.fz (pairD b.2)) := by unfold boxD; rw [ixD_t, atI_1]; rfl
/-- steps of two spots -/
def cheb (p q : Int × Int) : Int := max ((p.1 - q.1).natAbs : Int) ((p.2 - q.2).natAbs : Int)
def gap (l h l' h' : Int) : Int := max (max 0 (l' - h)) (l - h')
/-- steps between two boxes, way by way -/
def between (a b : (Int × Int) × (Int × Int)) : Int := max (gap a.1.1 a.2.1 b.1.1 b.2.1) (gap a.1.2 a.2.2 b.1.2 b.2.2)
def hasB (b : (Int × Int) × (Int × Int)) (p : Int × Int) : Bool := decide (b.1.1 ≤ p.1) && decide (p.1 ≤ b.2.1) && (decide (b.1.2 ≤ p.2) && decide (p.2 ≤ b.2.2))
/-! a shape, of lists or tuples -/
def pairVal : PyData → Option (Int × Int)
  | .tuple [.int a, .int b] => some (a, b)
  | _ => none
def boxVal : PyData → Option ((Int × Int) × (Int × Int))
  | .tuple [x, y] => (pairVal x).bind fun p => (pairVal y).bind fun q => some (p, q)
  | _ => none
theorem boxVal_D (b : (Int × Int) × (Int × Int)) : boxVal (boxD b) = some b := rfl
theorem boxB_is {d : PyData} (h : boxB d = true) : ∃ b, d = boxD b ∧ (b.1.1.natAbs : Int) < 1000000000000 ∧ (b.1.2.natAbs : Int) < 1000000000000 ∧ (b.2.1.natAbs : Int) < 1000000000000 ∧ (b.2.2.natAbs : Int) < 1000000000000 ∧ b.1.1 ≤ b.2.1 ∧ b.1.2 ≤ b.2.2 := by
  unfold boxB at h
  split at h
  · rename_i x y
    rw [Bool.and_eq_true, Bool.and_eq_true] at h
    obtain ⟨⟨h1, h2⟩, h3⟩ := h
    obtain ⟨a, b, rfl, p1, p2⟩ := spotB_is h1
    obtain ⟨c, d, rfl, p3, p4⟩ := spotB_is h2
    rw [leB_tt, Bool.and_eq_true] at h3
    exact ⟨((a, b), (c, d)), rfl, p1, p2, p3, p4, of_decide_eq_true h3.1, of_decide_eq_true h3.2⟩
  · cases h
theorem boxB_D {b : (Int × Int) × (Int × Int)} (h1 : (b.1.1.natAbs : Int) < 1000000000000) (h2 : (b.1.2.natAbs : Int) < 1000000000000) (h3 : (b.2.1.natAbs : Int) < 1000000000000) (h4 : (b.2.2.natAbs : Int) < 1000000000000) (h5 : b.1.1 ≤ b.2.1) (h6 : b.1.2 ≤ b.2.2) : boxB (boxD b) = true := by
  unfold boxD pairD
  rw [boxB_2, spotB_2, spotB_2, leB_tt, nearB_int, nearB_int, nearB_int, nearB_int, decide_eq_true h1, decide_eq_true h2, decide_eq_true h3, decide_eq_true h4, decide_eq_true h5, decide_eq_true h6]
  rfl
/-- two boxes, one away from the other -/
def farB : PyData → Bool
  | .tuple [x, y] => match boxVal x, boxVal y with
    | some a, some b => decide (1 < between a b)
    | _, _ => false
  | _ => false
theorem farB_D (a b : (Int × Int) × (Int × Int)) : farB (.tuple [boxD a, boxD b]) = decide (1 < between a b) := rfl
def chainB (ds : List PyData) : Bool := !(zipD ds (ds.drop 1)).any farB
def shapeOfD (d : PyData) : Option PyData := (listedD 1 6 d).bind fun ds => (mapO boxOfD ds).bind fun bs => if chainB bs = true then some (.tuple bs) else none
theorem boxOf_box {d b : PyData} (h : boxOfD d = some b) : boxB b = true := by
  unfold boxOfD at h
  obtain ⟨ds, _, h⟩ := bind_some h
  obtain ⟨bs, _, h⟩ := bind_some h
  split at h <;> cases h
  assumption
def shapeB : PyData → Bool
  | .tuple ds => match shapeOfD (.tuple ds) with
    | some s => PyData.eqv s (.tuple ds)
    | none => false
  | _ => false
theorem listedD_2 {d : PyData} {ds : List PyData} (h : listedD 2 2 d = some ds) : ∃ p q, ds = [p, q] ∧ (d = .list [p, q] ∨ d = .tuple [p, q]) := by
  have hl := len_listed h
  unfold listedD at h
  obtain ⟨l, e, h⟩ := bind_some h
  split at h <;> cases h
  have hd : d = .list ds ∨ d = .tuple ds := by
    unfold listD at e
    split at e <;> cases e
    · exact .inl rfl
    · exact .inr rfl
  match ds, hl, hd with
  | [p, q], _, hd => exact ⟨p, q, rfl, hd⟩
  | [], hl, _ => simp at hl
  | [_], hl, _ => simp at hl
  | _ :: _ :: _ :: _, hl, _ => simp only [List.length_cons] at hl; omega
theorem mapO_2 {f : PyData → Option PyData} {p q : PyData} {bs : List PyData} (h : mapO f [p, q] = some bs) : ∃ a b, f p = some a ∧ f q = some b ∧ bs = [a, b] := by
  obtain ⟨a, e1, h⟩ := bind_some h
  obtain ⟨bs', e2, h⟩ := bind_some h
  cases h
  obtain ⟨b, e3, e2⟩ := bind_some e2
  obtain ⟨bs'', e4, e2⟩ := bind_some e2
  cases e4
  cases e2
  exact ⟨a, b, e1, e3, rfl⟩
theorem part_is {p b : PyData} (h : partD p = some b) : ∃ x y, b = .tuple [x, y] ∧ (p = .list [x, y] ∨ p = .tuple [x, y]) := by
  unfold partD at h
  obtain ⟨ds, e, rfl⟩ := Option.map_eq_some_iff.mp h
  obtain ⟨x, y, rfl, hd⟩ := listedD_2 e
  exact ⟨x, y, rfl, hd⟩
theorem spotB_no (l : List PyData) : spotB (.list l) = false := spotB_n (by intro l z; cases z)
theorem boxOf_is {d b : PyData} (h : boxOfD d = some b) : d.canLay0 = true ∧ d.depth ≤ 2 ∧ b.canLay0 = true ∧ b.depth ≤ 2 ∧ PyData.eqv b d = boxB d := by
  have hb := boxOf_box h
  unfold boxOfD at h
  obtain ⟨ds, e1, h⟩ := bind_some h
  obtain ⟨bs, e2, h⟩ := bind_some h
  split at h <;> cases h
  obtain ⟨p, q, rfl, hd⟩ := listedD_2 e1
  obtain ⟨a, b, e3, e4, rfl⟩ := mapO_2 e2
  obtain ⟨x, y, rfl, hp⟩ := part_is e3
  obtain ⟨z, w, rfl, hq⟩ := part_is e4
  obtain ⟨⟨⟨i, j⟩, ⟨k, l⟩⟩, e5, _⟩ := boxB_is hb
  unfold boxD pairD at e5
  cases e5
  rcases hp with rfl | rfl <;> rcases hq with rfl | rfl <;> rcases hd with rfl | rfl
  all_goals first
    | (refine ⟨by simp [PyData.canLay0, PyData.canLayAll0], by simp [PyData.depth, PyData.depthAll], by simp [PyData.canLay0, PyData.canLayAll0], by simp [PyData.depth, PyData.depthAll], ?_⟩
       rw [hb]
       simp [PyData.eqv, PyData.eqvAll]
       done)
    | (refine ⟨by simp [PyData.canLay0, PyData.canLayAll0], by simp [PyData.depth, PyData.depthAll], by simp [PyData.canLay0, PyData.canLayAll0], by simp [PyData.depth, PyData.depthAll], ?_⟩
       rw [boxB_2]
       simp [PyData.eqv, PyData.eqvAll, spotB_no]
       done)
    | (refine ⟨by simp [PyData.canLay0, PyData.canLayAll0], by simp [PyData.depth, PyData.depthAll], by simp [PyData.canLay0, PyData.canLayAll0], by simp [PyData.depth, PyData.depthAll], ?_⟩
       rw [boxB_n (by intro l z; cases z)]
       simp [PyData.eqv, PyData.eqvAll]
       done)
theorem boxes_is : ∀ {ds bs : List PyData}, mapO boxOfD ds = some bs → PyData.canLayAll0 ds = true ∧ PyData.depthAll ds ≤ 2 ∧ PyData.canLayAll0 bs = true ∧ PyData.depthAll bs ≤ 2 ∧ PyData.eqvAll bs ds = ds.all boxB
  | [], _, h => by cases h; simp [PyData.canLayAll0, PyData.depthAll, PyData.eqvAll]
  | d :: ds, _, h => by
    obtain ⟨b, e0, h⟩ := bind_some h
    obtain ⟨bs, e, h⟩ := bind_some h
    cases h
    obtain ⟨a1, a2, a3, a4, a5⟩ := boxOf_is e0
    obtain ⟨b1, b2, b3, b4, b5⟩ := boxes_is e
    refine ⟨by simp [PyData.canLayAll0, a1, b1], by rw [PyData.depthAll]; omega, by simp [PyData.canLayAll0, a3, b3], by rw [PyData.depthAll]; omega, ?_⟩
    rw [PyData.eqvAll, a5, b5, List.all_cons]
theorem shapeOf_is {ds : List PyData} {s : PyData} (h : shapeOfD (.tuple ds) = some s) : ∃ bs, mapO boxOfD ds = some bs ∧ s = .tuple bs ∧ chainB bs = true ∧ (1 ≤ (ds.length : Int) ∧ (ds.length : Int) ≤ 6) := by
  unfold shapeOfD at h
  obtain ⟨l, e, h⟩ := bind_some h
  have hl := len_listed e
  unfold listedD at e
  obtain ⟨l', e', e⟩ := bind_some e
  cases e'
  split at e <;> cases e
  obtain ⟨bs, e2, h⟩ := bind_some h
  split at h <;> cases h
  exact ⟨bs, e2, rfl, by assumption, hl⟩
theorem mapO_bad {f : PyData → Option PyData} : ∀ {ds : List PyData} {x : PyData}, x ∈ ds → f x = none → mapO f ds = none
  | d :: ds, x, hx, h => by
    unfold mapO
    rcases List.mem_cons.mp hx with rfl | hx
    · rw [h]; rfl
    · rw [mapO_bad hx h]
      cases f d <;> rfl
theorem shapeB_bad {ds : List PyData} {x : PyData} (hx : x ∈ ds) (h : boxB x = false) : shapeB (.tuple ds) = false := by
  show (match shapeOfD (.tuple ds) with
    | some s => PyData.eqv s (.tuple ds)
    | none => false) = false
  cases e : shapeOfD (.tuple ds) with
  | none => rfl
  | some s =>
    obtain ⟨bs, h1, rfl, _, _⟩ := shapeOf_is e
    obtain ⟨_, _, _, _, a5⟩ := boxes_is h1
    show PyData.eqv (.tuple bs) (.tuple ds) = false
    rw [PyData.eqv, a5]
    rw [List.all_eq_false]
    exact ⟨x, hx, by rw [h]; exact Bool.false_ne_true⟩
theorem shapeB_len {ds : List PyData} (h : ¬ (1 ≤ (ds.length : Int) ∧ (ds.length : Int) ≤ 6)) : shapeB (.tuple ds) = false := by
  show (match shapeOfD (.tuple ds) with
    | some s => PyData.eqv s (.tuple ds)
    | none => false) = false
  cases e : shapeOfD (.tuple ds) with
  | none => rfl
  | some s =>
    obtain ⟨bs, h1, rfl, _, h2⟩ := shapeOf_is e
    exact (h h2).elim
theorem shapeB_n {d : PyData} (h : ∀ l, d ≠ .tuple l) : shapeB d = false := by
  unfold shapeB
  split
  · exact absurd rfl (h _)
  · rfl
theorem listed_2 (x y : PyData) : listedD 2 2 (.tuple [x, y]) = some [x, y] := by
  unfold listedD listD
  rw [Option.bind_some, if_pos (by simp)]
theorem boxOf_good {b : (Int × Int) × (Int × Int)} (h : boxB (boxD b) = true) : boxOfD (boxD b) = some (boxD b) := by
  have h' := h
  unfold boxD at h ⊢
  unfold boxOfD
  have e : ∀ p : Int × Int, partD (pairD p) = some (pairD p) := fun p => by
    unfold partD pairD
    rw [listed_2]
    rfl
  have e2 : mapO partD [pairD b.1, pairD b.2] = some [pairD b.1, pairD b.2] := by
    unfold mapO mapO mapO
    rw [e, e]
    rfl
  rw [listed_2, Option.bind_some, e2, Option.bind_some, if_pos h]
theorem mapO_good : ∀ {bs : List ((Int × Int) × (Int × Int))}, (∀ b ∈ bs, boxB (boxD b) = true) → mapO boxOfD (bs.map boxD) = some (bs.map boxD)
  | [], _ => rfl
  | b :: bs, h => by
    rw [List.map_cons]
    unfold mapO
    rw [boxOf_good (h b List.mem_cons_self), mapO_good fun x hx => h x (List.mem_cons_of_mem _ hx)]
    rfl
theorem shapeB_good {bs : List ((Int × Int) × (Int × Int))} (h : ∀ b ∈ bs, boxB (boxD b) = true) (hl : 1 ≤ bs.length ∧ bs.length ≤ 6) : shapeB (.tuple (bs.map boxD)) = chainB (bs.map boxD) := by
  have hL : listedD 1 6 (.tuple (bs.map boxD)) = some (bs.map boxD) := by
    unfold listedD
    show (if _ then _ else _) = _
    rw [if_pos (by rw [List.length_map]; omega)]
  have e : shapeOfD (.tuple (bs.map boxD)) = if chainB (bs.map boxD) = true then some (.tuple (bs.map boxD)) else none := by
    unfold shapeOfD
    rw [hL]
    show (mapO boxOfD (bs.map boxD)).bind _ = _
    rw [mapO_good h]
    rfl
  show (match shapeOfD (.tuple (bs.map boxD)) with
    | some s => PyData.eqv s (.tuple (bs.map boxD))
    | none => false) = _
  cases hc : chainB (bs.map boxD)
  · rw [e, hc]
    rfl
  · rw [e, hc, if_pos rfl]
    obtain ⟨_, _, _, _, a5⟩ := boxes_is (mapO_good h)
    show PyData.eqv (.tuple (bs.map boxD)) (.tuple (bs.map boxD)) = true
    rw [PyData.eqv, a5, List.all_eq_true]
    intro x hx
    obtain ⟨b, hb, rfl⟩ := List.mem_map.mp hx
    exact h b hb

/-- a name's signs -/
def nameL (l : List Nat) : Bool := decide (1 ≤ l.length) && decide (l.length ≤ 8) && l.all fun c => decide (97 ≤ c ∧ c ≤ 122)
def nameD : PyData → Bool
  | .str x => nameL x.cps.toList
  | _ => false
def sizedD : PyData → Prop
  | .str x => x.length ≤ lineN
  | _ => True
def timeD : PyData → Bool
  | .int i => decide (0 ≤ i ∧ i ≤ 1000000000000)
  | _ => false
theorem mem_letters {c : Nat} : decide (c ∈ [97, 98, 99, 100, 101, 102, 103, 104, 105, 106, 107, 108, 109, 110, 111, 112, 113, 114, 115, 116, 117, 118, 119, 120, 121, 122]) = decide (97 ≤ c ∧ c ≤ 122) := by
  refine decide_eq_decide.mpr ?_
  simp only [List.mem_cons, List.not_mem_nil, or_false]
  omega
theorem nameL_bad {l : List Nat} {c : Nat} (hc : c ∈ l) (h : ¬ (97 ≤ c ∧ c ≤ 122)) : nameL l = false := by
  unfold nameL
  have : (l.all fun c => decide (97 ≤ c ∧ c ≤ 122)) = false := by
    rw [List.all_eq_false]
    exact ⟨c, hc, by simpa using h⟩
  rw [this, Bool.and_false]
theorem nameL_long {l : List Nat} (h : 8 < l.length) : nameL l = false := by
  unfold nameL
  rw [decide_eq_false (p := l.length ≤ 8) (by omega), Bool.and_false, Bool.false_and]
theorem nameL_of {l : List Nat} (h1 : 1 ≤ l.length) (h2 : l.length ≤ 8) (h : ∀ c ∈ l, 97 ≤ c ∧ c ≤ 122) : nameL l = true := by
  unfold nameL
  rw [decide_eq_true h1, decide_eq_true h2, List.all_eq_true.mpr fun c hc => decide_eq_true (h c hc)]
  rfl
theorem nameL_is {l : List Nat} (h : nameL l = true) : 1 ≤ l.length ∧ l.length ≤ 8 ∧ ∀ c ∈ l, 97 ≤ c ∧ c ≤ 122 := by
  unfold nameL at h
  rw [Bool.and_eq_true, Bool.and_eq_true, decide_eq_true_eq, decide_eq_true_eq, List.all_eq_true] at h
  exact ⟨h.1.1, h.1.2, fun c hc => of_decide_eq_true (h.2 c hc)⟩

/-! tellings, of any data -/
def landL : List Nat := [108, 97, 110, 100]
def dropL : List Nat := [100, 114, 111, 112]
def freeL : List Nat := [102, 114, 101, 101]
def spotL : List Nat := [115, 112, 111, 116]
def tellK (l : List Nat) : Int := if l = landL then 6 else if l = dropL then 3 else if l = freeL then 3 else if l = spotL then 4 else 0
def outerB : PyData → Bool
  | .str x => nameL x.cps.toList || decide (x.cps.toList = [])
  | _ => false
def wobB : PyData → Bool
  | .int i => decide ((i.natAbs : Int) < 1000000000000) && decide (0 ≤ i)
  | _ => false
def restB (l : List Nat) (r : List PyData) : Bool := if l = spotL then (match r with
    | [s] => spotB s
    | _ => false) else if l = landL then (match r with
    | [o, s, w] => outerB o && shapeB s && wobB w
    | _ => false) else true
def tellB : PyData → Bool
  | .tuple (.str x :: t :: n :: r) => decide (tellK x.cps.toList = (r.length : Int) + 3) && timeD t && nameD n && restB x.cps.toList r
  | _ => false
theorem S_eq {a b : List Nat} : (SX.S a = SX.S b) ↔ a = b := ⟨fun h => by
  have := congrArg (fun x : Str => x.cps.toList) h
  simpa [S_cps] using this, fun h => by rw [h]⟩
theorem look_S {l m : List Nat} {i : Int} {r : List (Str × Int)} : List.lookup (SX.S l) ((SX.S m, i) :: r) = if l = m then some i else List.lookup (SX.S l) r := by
  rw [List.lookup_cons]
  by_cases h : l = m
  · subst h; simp
  · rw [if_neg h, beq_eq_false_iff_ne.mpr fun z => h (S_eq.mp z)]
theorem look_tell (l : List Nat) : (List.lookup (SX.S l) [(SX.S [108, 97, 110, 100], (6 : Int)), (SX.S [100, 114, 111, 112], 3), (SX.S [102, 114, 101, 101], 3), (SX.S [115, 112, 111, 116], 4)]).getD 0 = tellK l := by
  rw [look_S, look_S, look_S, look_S]
  unfold tellK landL dropL freeL spotL
  by_cases h1 : l = [108, 97, 110, 100]
  · rw [if_pos h1, if_pos h1]; rfl
  · rw [if_neg h1, if_neg h1]
    by_cases h2 : l = [100, 114, 111, 112]
    · rw [if_pos h2, if_pos h2]; rfl
    · rw [if_neg h2, if_neg h2]
      by_cases h3 : l = [102, 114, 101, 101]
      · rw [if_pos h3, if_pos h3]; rfl
      · rw [if_neg h3, if_neg h3]
        by_cases h4 : l = [115, 112, 111, 116]
        · rw [if_pos h4, if_pos h4]; rfl
        · rw [if_neg h4, if_neg h4]; rfl
theorem str_S (x : Str) : ∃ l, x = SX.S l := ⟨x.cps.toList, by cases x; simp⟩
theorem sized_wt {d : PyData} (h : wt d ≤ lineN) : sizedD d := by
  unfold sizedD
  split
  · rw [wt] at h; omega
  · trivial
theorem nearB_no {d : PyData} (h : ∀ i, d ≠ .int i) : nearB d = false := by
  unfold nearB
  split
  · exact absurd rfl (h _)
  · rfl
theorem tellB_1 {a : PyData} : tellB (.tuple [a]) = false := by cases a <;> rfl
theorem tellB_2 {a b : PyData} : tellB (.tuple [a, b]) = false := by cases a <;> rfl
theorem tellB_3 {l : List Nat} {t n : PyData} {r : List PyData} : tellB (.tuple (.str (SX.S l) :: t :: n :: r)) = (decide (tellK l = (r.length : Int) + 3) && timeD t && nameD n && restB l r) := by
  show (decide (tellK (SX.S l).cps.toList = (r.length : Int) + 3) && timeD t && nameD n && restB (SX.S l).cps.toList r) = _
  rw [S_cps]
theorem tellB_no {a t n : PyData} {r : List PyData} (h : ∀ x, a ≠ .str x) : tellB (.tuple (a :: t :: n :: r)) = false := by
  cases a with
  | str x => exact absurd rfl (h x)
  | _ => rfl
theorem atI_5 {α : Type} {x x1 x2 x3 x4 x5 : α} {xs : List α} : atI (x :: x1 :: x2 :: x3 :: x4 :: x5 :: xs) 5 = some x5 := atI_nat (k := 5) rfl
/-- the pen -/
def penD (ns : List Int) (p c : Int) : PyData := .list [.list (ns.map PyData.int), .int p, .int c]
theorem take_ok {ns : List Int} {p c m : Int} {P : List SV → RV → Prop} (h0 : 0 < m) (h1 : m < 1073741824) (k : ∀ r p' c' : Int, 0 ≤ r → r < m → P [.own (penD ns p' c'), .fz (.int m)] (.fz (.int r))) :
    WC c_law_take [.own (penD ns p c), .fz (.int m)] P := by
  have k' := fun r p' c' => k r p' c'
  unfold penD at k'
  unfold c_law_take b_law_take penD
  simp_arith
  refine kIf_i (fun hc => ?_) fun hc => ?_
  · simp_arith
    refine ⟨h0, ⟨h0, by omega⟩, ?_⟩
    simp_arith
    exact k' _ _ _ (Int.emod_nonneg _ (by omega)) (Int.emod_lt_of_pos _ h0)
  · simp_arith
    refine kIf_j (fun e => ∃ x : Int, e = [.ref (.list [.list (ns.map PyData.int), .int (p + 1), .int c]), .fz (.int m), .unb, .fz (.int p), .fz (.int x), .unb, .unb]) (fun hl => ?_) (fun hl => ?_) ?_
    · have hl' : (0 : Int) < (ns.map PyData.int).length := of_decide_eq_true hl
      simp_arith
      refine ⟨hl', wp_at (Int.emod_nonneg _ (by omega)) (Int.emod_lt_of_pos _ hl') fun a ha => ?_⟩
      simp_arith
      rw [List.getElem?_map] at ha
      obtain ⟨x, _, rfl⟩ := Option.map_eq_some_iff.mp ha
      exact ⟨x, rfl⟩
    · simp_arith
      exact ⟨0, rfl⟩
    · rintro e ⟨x, rfl⟩
      simp_arith
      refine kAnd_j (decide ((1000000000000000000 : Int) ≤ (x.natAbs : Int))) (fun _ => ?_) ?_
      · simp_arith
      · refine kIf_i (fun hb => ?_) fun hb => ?_
        · simp_arith
          refine ⟨⟨h0, by omega⟩, ?_⟩
          simp_arith
          exact ⟨h0, k' _ _ _ (Int.emod_nonneg _ (by omega)) (Int.emod_lt_of_pos _ h0)⟩
        · simp_arith
          exact ⟨.inl (by omega), .inl (by omega), h0, k' _ _ _ (Int.emod_nonneg _ (by omega)) (Int.emod_lt_of_pos _ h0)⟩

theorem wide_ok {ns : List Int} {p c m : Int} {P : List SV → RV → Prop} (h0 : 0 < m) (h1 : m < 10 ^ 60) (k : ∀ r p' c' : Int, 0 ≤ r → r < m → P [.own (penD ns p' c'), .fz (.int m)] (.fz (.int r))) :
    WC c_law_wide [.own (penD ns p c), .fz (.int m)] P := by
  unfold c_law_wide b_law_wide
  simp_arith
  refine kIf_i (fun hc => ?_) fun hc => ?_
  · have hm : m < 10000000 := of_decide_eq_true hc
    simp_arith
    refine take_ok h0 (by omega) fun r p' c' r0 r1 => ?_
    simp_arith
    exact k r p' c' r0 r1
  · have hL := num_len (Int.le_of_lt h0) (k := 60) (by decide) h1
    simp_arith
    refine ⟨log_lt (Int.le_of_lt h0) (Int.lt_trans h1 (by decide)), Nat.le_trans hL (by decide), by omega, ?_⟩
    refine wfor_all (fun e => ∃ (p' c' f : Int) (s : SV), s.lock = false ∧ e = [.ref (penD ns p' c'), .fz (.int m), .fz (.int f), s]) ⟨p, c, 0, .unb, rfl, rfl⟩ (fun d hd e he => ?_) fun e he => ?_
    · obtain ⟨p', c', f, s, hs, rfl⟩ := he
      simp_arith [hs]
      refine take_ok (by decide) (by decide) fun r p2 c2 r0 r1 => ?_
      simp_arith
      exact ⟨_, _, _, _, rfl, rfl⟩
    · obtain ⟨p', c', f, s, hs, rfl⟩ := he
      simp_arith
      exact ⟨h0, k _ _ _ (Int.emod_nonneg _ (by omega)) (Int.emod_lt_of_pos _ h0)⟩

/-! chains of boxes -/
abbrev Bx := (Int × Int) × (Int × Int)
def Linked : List Bx → Prop
  | [] => True
  | [_] => True
  | a :: b :: r => between a b ≤ 1 ∧ Linked (b :: r)
theorem linked_snoc : ∀ {bs : List Bx} {y x : Bx}, Linked (bs ++ [y]) → between y x ≤ 1 → Linked (bs ++ [y] ++ [x])
  | [], y, x, _, h => ⟨h, trivial⟩
  | [a], y, x, h1, h => ⟨h1.1, h, trivial⟩
  | a :: b :: bs, y, x, h1, h => ⟨h1.1, linked_snoc (bs := b :: bs) h1.2 h⟩
theorem linked_map {f : Bx → Bx} (hf : ∀ a b, between a b ≤ 1 → between (f a) (f b) ≤ 1) : ∀ {bs : List Bx}, Linked bs → Linked (bs.map f)
  | [], _ => trivial
  | [_], _ => trivial
  | a :: b :: r, h => ⟨hf a b h.1, linked_map hf (bs := b :: r) h.2⟩
theorem zipD_cons {a b : PyData} {as bs : List PyData} : zipD (a :: as) (b :: bs) = .tuple [a, b] :: zipD as bs := rfl
theorem chainB_linked : ∀ {bs : List Bx}, Linked bs → chainB (bs.map boxD) = true
  | [], _ => rfl
  | [_], _ => rfl
  | a :: b :: r, h => by
    have ih := chainB_linked (bs := b :: r) h.2
    unfold chainB at ih ⊢
    rw [List.map_cons, List.drop_succ_cons, List.drop_zero] at ih
    rw [List.map_cons, List.map_cons, List.drop_succ_cons, List.drop_zero, zipD_cons, List.any_cons, farB_D, decide_eq_false (by have := h.1; omega), Bool.false_or]
    exact ih
theorem between_le {a b : Bx} : between a b ≤ 1 ↔ b.1.1 - a.2.1 ≤ 1 ∧ a.1.1 - b.2.1 ≤ 1 ∧ b.1.2 - a.2.2 ≤ 1 ∧ a.1.2 - b.2.2 ≤ 1 := by
  unfold between gap
  omega
/-- small boxes, drawn -/
structure Small (n : Int) (b : Bx) : Prop where
  l1 : -4 * n ≤ b.1.1
  l2 : -4 * n ≤ b.1.2
  h1 : b.2.1 ≤ 15 + 4 * n
  h2 : b.2.2 ≤ 15 + 4 * n
  o1 : b.1.1 ≤ b.2.1
  o2 : b.1.2 ≤ b.2.2
  w1 : b.2.1 ≤ b.1.1 + 8
  w2 : b.2.2 ≤ b.1.2 + 8
theorem Small.up {n m : Int} {b : Bx} (h : Small n b) (l : n ≤ m) : Small m b := ⟨by have := h.l1; omega, by have := h.l2; omega, by have := h.h1; omega, by have := h.h2; omega, h.o1, h.o2, h.w1, h.w2⟩
theorem atI_last {α : Type} {xs : List α} {x : α} : atI (xs ++ [x]) (-1) = some x := by
  unfold atI
  rw [ixN_neg (by decide) (by rw [List.length_append, List.length_singleton]; omega), List.length_append, List.length_singleton]
  show (xs ++ [x])[(-1 + ((xs.length + 1 : Nat) : Int)).toNat]? = some x
  rw [show (-1 + ((xs.length + 1 : Nat) : Int)).toNat = xs.length by omega]
  simp
theorem ixD_last {xs : List PyData} {x : PyData} : ixD (.list (xs ++ [x])) (.int (-1)) = some (.fz x) := by
  rw [ixD_l, atI_last]
  rfl
/-- what is drawn: a chain -/
def boxesD (bs : List Bx) : PyData := .list (bs.map boxD)
theorem boxes_ok {ns : List Int} {p c m : Int} {P : List SV → RV → Prop} (m0 : 0 < m) (m1 : m ≤ 6) (k : ∀ (p' c' : Int) (bs : List Bx), 1 ≤ bs.length → (bs.length : Int) ≤ m → Linked bs → (∀ b ∈ bs, Small 6 b) → P [.own (penD ns p' c'), .fz (.int m)] (.own (boxesD bs))) :
    WC c_law_boxes [.own (penD ns p c), .fz (.int m)] P := by
  unfold c_law_boxes b_law_boxes
  simp_arith
  refine take_ok (by decide) (by decide) fun x0 p1 c1 a1 b1 => ?_
  simp_arith
  refine take_ok (by decide) (by decide) fun y0 p2 c2 a2 b2 => ?_
  simp_arith
  refine take_ok (by decide) (by decide) fun w0 p3 c3 a3 b3 => ?_
  simp_arith
  refine take_ok (by decide) (by decide) fun v0 p4 c4 a4 b4 => ?_
  simp_arith
  refine take_ok m0 (by omega) fun n p5 c5 a5 b5 => ?_
  simp_arith
  refine ⟨⟨by omega, by omega⟩, ?_⟩
  refine wfor (fun i e => ∃ (p' c' lx ly : Int) (s4 s5 s6 s7 : SV) (bs : List Bx) (y : Bx), (s4.lock = false ∧ s5.lock = false ∧ s6.lock = false ∧ s7.lock = false) ∧ bs.length = i ∧ Linked (bs ++ [y]) ∧ (∀ b ∈ bs ++ [y], Small i b) ∧
    e = [.ref (penD ns p' c'), .fz (.int m), .own (.list [.int lx, .int ly]), .own (.list (bs.map boxD ++ [boxD y])), s4, s5, s6, s7, .unb])
    ⟨p5, c5, x0, y0, _, _, _, _, [], ((x0, y0), (x0 + w0, y0 + v0)), ⟨rfl, rfl, rfl, rfl⟩, rfl, trivial, fun b hb => ?_, rfl⟩ (fun i d hd e he => ?_) fun e he => ?_
  · rw [List.mem_singleton.mp hb]
    exact ⟨by simp; omega, by simp; omega, by simp; omega, by simp; omega, by simp; omega, by simp; omega, by simp; omega, by simp; omega⟩
  · obtain ⟨p', c', lx, ly, s4, s5, s6, s7, bs, y, ⟨l4, l5, l6, l7⟩, hbl, hln, hsm, rfl⟩ := he
    have hy := hsm y (by simp)
    have hiN : (i : Int) < n := by
      have := (List.getElem?_eq_some_iff.mp hd).1
      rw [range_len] at this
      omega
    obtain ⟨h1, h2, h3, h4, h5, h6, h7, h8⟩ := hy
    have eb : ∀ b : Bx, boxD b = .tuple [.tuple [.int b.1.1, .int b.1.2], .tuple [.int b.2.1, .int b.2.2]] := fun _ => rfl
    simp_arith [l4, l5, l6, l7, atI_last, eb]
    refine take_ok (by decide) (by decide) fun u p6 c6 a6 b6 => ?_
    simp_arith [l4, l5, l6, l7]
    refine take_ok (by decide) (by decide) fun v p7 c7 a7 b7 => ?_
    simp_arith [l4, l5, l6, l7]
    refine wlc_two ?_
    simp_arith
    refine take_ok (by omega) (by omega) fun q1 p8 c8 a8 b8 => ?_
    simp_arith
    refine take_ok (by omega) (by omega) fun q2 p9 c9 a9 b9 => ?_
    simp_arith
    refine ⟨by simp only [List.length_append, List.length_map, List.length_singleton]; omega, p9, c9, y.1.1 - u - 1 + q1, y.1.2 - v - 1 + q2, .fz d, .fz (pairD y.1), .fz (pairD y.2), .own (.list [.int u, .int v]), bs ++ [y], ((y.1.1 - u - 1 + q1, y.1.2 - v - 1 + q2), (y.1.1 - u - 1 + q1 + u, y.1.2 - v - 1 + q2 + v)), ⟨rfl, rfl, rfl, rfl⟩, by rw [List.length_append, List.length_singleton, hbl], linked_snoc hln (between_le.mpr ⟨by dsimp only; omega, by dsimp only; omega, by dsimp only; omega, by dsimp only; omega⟩), fun b hb => ?_, ?_⟩
    · rcases List.mem_append.mp hb with hb | hb
      · exact (hsm b hb).up (by omega)
      · rw [List.mem_singleton.mp hb]
        exact ⟨by dsimp only; omega, by dsimp only; omega, by dsimp only; omega, by dsimp only; omega, by dsimp only; omega, by dsimp only; omega, by dsimp only; omega, by dsimp only; omega⟩
    · rw [List.map_append]
      rfl
  · obtain ⟨p', c', lx, ly, s4, s5, s6, s7, bs, y, ⟨l4, l5, l6, l7⟩, hbl, hln, hsm, rfl⟩ := he
    rw [range_len] at hbl
    simp_arith
    have := k p' c' (bs ++ [y]) (by simp) (by rw [List.length_append, List.length_singleton]; omega) hln fun b hb => (hsm b hb).up (by rw [range_len]; omega)
    unfold boxesD at this
    rw [List.map_append] at this
    exact this

/-! stretched and moved -/
def str1 (k : Int) (o : Int × Int) (b : Bx) : Bx := ((b.1.1 * k + o.1, b.1.2 * k + o.2), (b.2.1 * k + k - 1 + o.1, b.2.2 * k + k - 1 + o.2))
theorem stretched_ok {bs : List Bx} {k : Int} {o : Int × Int} {P : List SV → RV → Prop} (hl : bs.length ≤ 1000) (hb : ∀ b ∈ bs, Small 6 b) (hk0 : 0 ≤ k) (hk1 : k < 18446744073709551616) (kk : P [.fz (boxesD bs), .fz (.int k), .fz (pairD o)] (.fz (.tuple ((bs.map (str1 k o)).map boxD)))) :
    WC c_law_stretched [.fz (boxesD bs), .fz (.int k), .fz (pairD o)] P := by
  unfold c_law_stretched b_law_stretched
  unfold boxesD pairD at *
  simp_arith
  refine wfor (fun i e => ∃ s4 s5 s6 : SV, (s4.lock = false ∧ s5.lock = false ∧ s6.lock = false) ∧ e = [.fz (.list (bs.map boxD)), .fz (.int k), .fz (.tuple [.int o.1, .int o.2]), .own (.list (((bs.take i).map (str1 k o)).map boxD)), s4, s5, s6])
    ⟨_, _, _, ⟨rfl, rfl, rfl⟩, rfl⟩ (fun i d hd e he => ?_) fun e he => ?_
  · obtain ⟨s4, s5, s6, ⟨l4, l5, l6⟩, rfl⟩ := he
    rw [List.getElem?_map] at hd
    obtain ⟨b, hb2, rfl⟩ := Option.map_eq_some_iff.mp hd
    have hi := (List.getElem?_eq_some_iff.mp hb2).1
    have hsm := hb b (List.mem_of_getElem? hb2)
    have eb : ∀ b : Bx, boxD b = .tuple [.tuple [.int b.1.1, .int b.1.2], .tuple [.int b.2.1, .int b.2.2]] := fun _ => rfl
    simp_arith [l4, l5, l6, eb]
    refine ⟨.inr ⟨by omega, hk1⟩, .inr ⟨by omega, hk1⟩, .inr ⟨by omega, hk1⟩, .inr ⟨by omega, hk1⟩, by rw [List.length_map, List.length_map, List.length_take]; omega, .fz (pairD b.1), .fz (pairD b.2), .fz (.tuple [.int (b.1.1 * k + o.1), .int (b.1.2 * k + o.2)]), ⟨rfl, rfl, rfl⟩, ?_⟩
    rw [List.take_succ, hb2, Option.toList_some, List.map_append, List.map_append]
    rfl
  · obtain ⟨s4, s5, s6, ⟨l4, l5, l6⟩, rfl⟩ := he
    rw [List.length_map, List.take_length]
    simp_arith
    exact kk

theorem str1_between {k : Int} {o : Int × Int} (hk : 1 ≤ k) {a b : Bx} (h : between a b ≤ 1) : between (str1 k o a) (str1 k o b) ≤ 1 := by
  rw [between_le] at h ⊢
  unfold str1
  dsimp only
  have m : ∀ x y : Int, x - y ≤ 1 → (x * k + 0) - (y * k + k - 1) ≤ 1 := fun x y hxy => by
    have h1 : (x - y - 1) * k ≤ 0 := Int.mul_nonpos_of_nonpos_of_nonneg (by omega) (by omega)
    rw [Int.sub_mul, Int.sub_mul] at h1
    omega
  have m1 := m _ _ h.1
  have m2 := m _ _ h.2.1
  have m3 := m _ _ h.2.2.1
  have m4 := m _ _ h.2.2.2
  exact ⟨by omega, by omega, by omega, by omega⟩
structure Stretch (k : Int) (o : Int × Int) : Prop where
  k1 : 1 ≤ k
  k2 : k ≤ 10000000000
  a1 : -100000000000 < o.1
  a2 : o.1 < 100000000000
  b1 : -100000000000 < o.2
  b2 : o.2 < 100000000000
theorem str1_box {k : Int} {o : Int × Int} (hs : Stretch k o) {b : Bx} (h : Small 6 b) : boxB (boxD (str1 k o b)) = true := by
  obtain ⟨k1, k2, a1, a2, b1, b2⟩ := hs
  obtain ⟨h1, h2, h3, h4, h5, h6, h7, h8⟩ := h
  have lo : ∀ x : Int, -24 ≤ x → -240000000000 ≤ x * k := fun x hx => by
    have := Int.mul_le_mul_of_nonneg_right hx (by omega : 0 ≤ k)
    omega
  have hi : ∀ x : Int, x ≤ 39 → x * k ≤ 390000000000 := fun x hx => by
    have := Int.mul_le_mul_of_nonneg_right hx (by omega : 0 ≤ k)
    omega
  have mo : ∀ x y : Int, x ≤ y → x * k ≤ y * k := fun x y hxy => Int.mul_le_mul_of_nonneg_right hxy (by omega)
  have q1 := lo b.1.1 (by omega)
  have q2 := lo b.1.2 (by omega)
  have q3 := hi b.2.1 (by omega)
  have q4 := hi b.2.2 (by omega)
  have q5 := mo _ _ h5
  have q6 := mo _ _ h6
  refine boxB_D ?_ ?_ ?_ ?_ ?_ ?_ <;> (unfold str1; dsimp only; omega)
/-- how far all is stretched and moved -/
theorem stretch_ok {ns : List Int} {p c : Int} {P : List SV → RV → Prop} (k : ∀ (p' c' y : Int) (o : Int × Int), Stretch y o → P [.own (penD ns p' c')] (.fz (.tuple [.int y, pairD o]))) : WC c_law_stretch [.own (penD ns p c)] P := by
  unfold pairD at k
  unfold c_law_stretch b_law_stretch
  simp_arith
  refine take_ok (by decide) (by decide) fun r1 p1 c1 a1 b1 => ?_
  simp_arith
  refine wp_at a1 b1 fun d hd => ?_
  have hm := List.mem_of_getElem? hd
  simp only [List.mem_cons, List.not_mem_nil, or_false] at hm
  obtain ⟨y, rfl, hy⟩ : ∃ y : Int, d = .int y ∧ (1 ≤ y ∧ y ≤ 10000000000) := by
    rcases hm with rfl | rfl | rfl | rfl | rfl | rfl <;> exact ⟨_, rfl, by omega, by omega⟩
  clear hd hm
  simp_arith
  refine take_ok (by decide) (by decide) fun r2 p2 c2 a2 b2 => ?_
  simp_arith
  refine take_ok (by decide) (by decide) fun r3 p3 c3 a3 b3 => ?_
  simp_arith
  refine take_ok (by decide) (by decide) fun r4 p4 c4 a4 b4 => ?_
  simp_arith
  refine wp_at a4 b4 fun d hd => ?_
  have hm := List.mem_of_getElem? hd
  simp only [List.mem_cons, List.not_mem_nil, or_false] at hm
  obtain ⟨o, rfl, ho⟩ : ∃ o : Int × Int, d = .tuple [.int o.1, .int o.2] ∧ (-20 ≤ o.1 ∧ o.1 ≤ 20 ∧ -20 ≤ o.2 ∧ o.2 ≤ 20) := by
    rcases hm with rfl | rfl
    · exact ⟨(0, 0), rfl, by omega, by omega, by omega, by omega⟩
    · exact ⟨(_, _), rfl, by dsimp only; omega, by dsimp only; omega, by dsimp only; omega, by dsimp only; omega⟩
  clear hd hm
  simp_arith
  refine kIf_i (fun hc => ?_) fun hc => ?_
  · simp_arith
    refine wide_ok (by decide) (by decide) fun u p5 c5 a5 b5 => ?_
    simp_arith
    refine wide_ok (by decide) (by decide) fun v p6 c6 a6 b6 => ?_
    simp_arith
    exact k _ _ _ (u, 0 - v) ⟨hy.1, hy.2, by dsimp only; omega, by dsimp only; omega, by dsimp only; omega, by dsimp only; omega⟩
  · simp_arith
    exact k _ _ _ o ⟨hy.1, hy.2, by omega, by omega, by omega, by omega⟩

/-- names, listed -/
def namesD (ls : List (List Nat)) : PyData := .list (ls.map fun l => .str (SX.S l))
def lettersL : List Nat := [97, 98, 99, 100, 101, 102, 103, 104, 105, 106, 107, 108, 109, 110, 111, 112, 113, 114, 115, 116, 117, 118, 119, 120, 121, 122]
theorem letters_in {c : Nat} (h : c ∈ lettersL) : 97 ≤ c ∧ c ≤ 122 := of_decide_eq_true (mem_letters.symm.trans (decide_eq_true h))
def wordsL : List (List Nat) := [[108, 97, 110, 100], [100, 114, 111, 112], [102, 114, 101, 101], [115, 112, 111, 116], [99, 111, 109, 101, 115], [103, 111, 101, 115], [105, 110], [111, 117, 116], [115, 116, 97, 121, 115], [119, 97, 105, 116], [110, 111, 110, 101], [97], [122]]
theorem words_ok : ∀ l ∈ wordsL, nameL l = true := by decide +kernel
theorem words_at {i : Int} {Q : PyData → Prop} (h0 : 0 ≤ i) (h : i < 13) (k : ∀ l ∈ wordsL, Q (.str (SX.S l))) : Wp (atI (wordsL.map fun l => PyData.str (SX.S l)) i) Q := by
  refine wp_at h0 h fun a ha => ?_
  rw [List.getElem?_map] at ha
  obtain ⟨l, hl, rfl⟩ := Option.map_eq_some_iff.mp ha
  exact k l (List.mem_of_getElem? hl)
theorem gathers {ls : List (List Nat)} {acc : List PyData} {l : List Nat} (e : acc = ls.map fun l => PyData.str (SX.S l)) : acc ++ [.str (SX.S l)] = (ls ++ [l]).map fun l => PyData.str (SX.S l) := by
  rw [e, List.map_append]
  rfl
theorem of_allN : ∀ {acc : List PyData}, (∀ x ∈ acc, ∃ l, nameL l = true ∧ x = .str (SX.S l)) → ∃ ls : List (List Nat), acc = (ls.map fun l => PyData.str (SX.S l)) ∧ ∀ l ∈ ls, nameL l = true
  | [], _ => ⟨[], rfl, fun l h => by cases h⟩
  | a :: acc, h => by
    obtain ⟨l, h1, rfl⟩ := h a List.mem_cons_self
    obtain ⟨ls, h2, h3⟩ := of_allN fun x hx => h x (List.mem_cons_of_mem _ hx)
    refine ⟨l :: ls, by rw [h2]; rfl, fun l' hl' => ?_⟩
    rcases List.mem_cons.mp hl' with rfl | hl'
    · exact h1
    · exact h3 l' hl'
theorem names_ok {ns : List Int} {p c m : Int} {P : List SV → RV → Prop} (m0 : 0 < m) (m1 : m ≤ 8) (k : ∀ (p' c' : Int) (ls : List (List Nat)), (ls.length : Int) = m → (∀ l ∈ ls, nameL l = true) → P [.own (penD ns p' c'), .fz (.int m)] (.own (namesD ls))) :
    WC c_law_names [.own (penD ns p c), .fz (.int m)] P := by
  unfold c_law_names b_law_names
  simp_arith
  refine wlc (fun i e acc => ∃ (p' c' : Int) (cs : List Nat), e = [.ref (penD ns p' c'), .fz (.int m), .fz (.str (SX.S lettersL)), .own (.list (wordsL.map fun l => .str (SX.S l))), .unb, .unb, .unb, .unb, .unb, .unb, .unb, .unb] ∧ acc = (cs.map fun c => .str (SX.S [c])) ∧ cs.length = i ∧ ∀ c ∈ cs, 97 ≤ c ∧ c ≤ 122) (by decide)
    ⟨p, c, [], rfl, rfl, rfl, fun c h => by cases h⟩ (fun i d hd e acc hj _ => ?_) fun e acc hj _ => ?_
  · obtain ⟨p', c', cs, rfl, rfl, hl, hc⟩ := hj
    simp_arith
    refine take_ok (by decide) (by decide) fun r p2 c2 r0 r1 => ?_
    simp_arith
    refine ⟨by decide, wp_at r0 r1 fun a ha => ?_⟩
    simp_arith
    refine ⟨p2, c2, cs ++ [a], rfl, by simp, by simp [hl], fun x hx => ?_⟩
    rcases List.mem_append.mp hx with hx | hx
    · exact hc x hx
    · rw [List.mem_singleton.mp hx]; exact letters_in (List.mem_of_getElem? ha)
  · obtain ⟨p', c', cs, rfl, rfl, hl, hc⟩ := hj
    rw [range_len] at hl
    have hl : cs.length = 8 := hl
    have e1 : joinD (SX.S []) (.list (cs.map fun c => .str (SX.S [c]))) = some (.fz (.str (SX.S cs))) := by
      rw [joinD_l, show (cs.map fun c => PyData.str (SX.S [c])) = (cs.map fun c => SX.S [c]).map PyData.str by rw [List.map_map]; rfl, strsOf_map]
      show (if _ then _ else none) = _
      rw [lens_signs, join_signs, if_pos (by rw [List.length_map, hl]; decide)]
    simp_arith [e1]
    refine take_ok (by decide) (by decide) fun r1 p2 c2 r10 r11 => ?_
    simp_arith
    refine take_ok (by decide) (by decide) fun r2 p3 c3 r20 r21 => ?_
    simp_arith
    have fin : ∀ (p3 c3 : Int) (acc : List PyData), (acc.length : Int) = m → (∀ x ∈ acc, ∃ l, nameL l = true ∧ x = .str (SX.S l)) → P [.own (penD ns p3 c3), .fz (.int m)] (.own (.list acc)) := fun p3 c3 acc h1 h2 => by
      obtain ⟨ls, rfl, h3⟩ := of_allN h2
      rw [List.length_map] at h1
      exact k p3 c3 ls h1 h3
    refine kIf_i (fun h2 => ?_) fun h2 => ?_
    · simp_arith
      refine ⟨⟨by omega, by omega⟩, ?_⟩
      refine wlc_all (fun e => e = [SV.ref (penD ns p3 c3), SV.fz (PyData.int m), SV.fz (PyData.str (SX.S lettersL)),
        SV.own (PyData.list (List.map (fun l => PyData.str (SX.S l)) wordsL)), SV.fz (PyData.str (SX.S cs)), SV.fz (PyData.int r1), SV.fz (PyData.int r2), SV.unb, SV.unb, SV.unb, SV.unb, SV.unb]) (fun x => ∃ l, nameL l = true ∧ x = .str (SX.S l)) (by rw [range_len]; exact Nat.le_trans (show _ ≤ 8 by omega) (by decide)) rfl (fun d hd e acc he => ?_) fun e acc he h1 h3 => ?_
      · subst he
        obtain ⟨j, rfl, j0, j1⟩ := range_mem hd
        simp_arith
        have q0 := Int.emod_nonneg (r1 + 3 * j) (b := 8) (by decide)
        have q1 := Int.emod_lt_of_pos (r1 + 3 * j) (b := 8) (by decide)
        refine ⟨by rw [hl]; decide, ⟨_, rfl, _, nameL_of (l := cs.take ((r1 + 3 * j) % 8 + 1).toNat) (by rw [List.length_take]; omega) (by rw [List.length_take]; omega) fun c h => hc c (List.mem_of_mem_take h), ?_⟩⟩
        rw [cutG_to (by omega)]
      · subst he
        simp_arith
        exact fin _ _ acc (by rw [h1, range_len]; omega) h3
    · simp_arith
      refine kIf_i (fun h2 => ?_) fun h2 => ?_
      · simp_arith
        refine ⟨⟨by omega, by omega⟩, ?_⟩
        refine wlc_all (fun e => e = [SV.ref (penD ns p3 c3), SV.fz (PyData.int m), SV.fz (PyData.str (SX.S lettersL)),
          SV.own (PyData.list (List.map (fun l => PyData.str (SX.S l)) wordsL)), SV.fz (PyData.str (SX.S cs)), SV.fz (PyData.int r1), SV.fz (PyData.int r2), SV.unb, SV.unb, SV.unb, SV.unb, SV.unb]) (fun x => ∃ l, nameL l = true ∧ x = .str (SX.S l)) (by rw [range_len]; exact Nat.le_trans (show _ ≤ 8 by omega) (by decide)) rfl (fun d hd e acc he => ?_) fun e acc he h1 h3 => ?_
        · subst he
          obtain ⟨j, rfl, j0, j1⟩ := range_mem hd
          simp_arith
          refine words_at (Int.emod_nonneg _ (by decide)) (Int.emod_lt_of_pos _ (by decide)) fun l hl => ?_
          simp_arith
          exact ⟨_, rfl, l, words_ok l hl, rfl⟩
        · subst he
          simp_arith
          exact fin _ _ acc (by rw [h1, range_len]; omega) h3
      · simp_arith
        refine take_ok (by decide) (by decide) fun r3 p4 c4 r30 r31 => ?_
        simp_arith
        refine take_ok (by omega) (by omega) fun r4 p5 c5 r40 r41 => ?_
        simp_arith
        refine ⟨⟨by omega, by omega⟩, ?_⟩
        refine wlc_all (fun e => e = [SV.ref (penD ns p5 c5), SV.fz (PyData.int m), SV.fz (PyData.str (SX.S lettersL)),
          SV.own (PyData.list (List.map (fun l => PyData.str (SX.S l)) wordsL)), SV.fz (PyData.str (SX.S cs)), SV.fz (PyData.int r1), SV.fz (PyData.int r2), SV.fz (.int (1 + r3)), SV.fz (.int r4), SV.unb, SV.unb, SV.unb]) (fun x => ∃ c : Nat, (97 ≤ c ∧ c ≤ 122) ∧ x = .str (SX.S [c])) (by rw [range_len]; exact Nat.le_trans (show _ ≤ 8 by omega) (by decide)) rfl (fun d hd e acc he => ?_) fun e acc he h1 h3 => ?_
        · subst he
          obtain ⟨j, rfl, j0, j1⟩ := range_mem hd
          simp_arith
          refine ⟨by decide, wp_at (Int.emod_nonneg _ (by decide)) (Int.emod_lt_of_pos _ (by decide)) fun a ha => ?_⟩
          simp_arith
          exact ⟨_, rfl, a, letters_in (List.mem_of_getElem? ha), rfl⟩
        · subst he
          simp_arith
          have hacc : (acc.length : Int) = m := by rw [h1, range_len]; omega
          refine wlc_all (fun e => e = [SV.ref (penD ns p5 c5), SV.fz (PyData.int m), SV.fz (PyData.str (SX.S lettersL)),
            SV.own (PyData.list (List.map (fun l => PyData.str (SX.S l)) wordsL)), SV.fz (PyData.str (SX.S cs)), SV.fz (PyData.int r1), SV.fz (PyData.int r2), SV.fz (.int (1 + r3)), SV.fz (.int r4), SV.fz (.list acc), SV.unb, SV.unb]) (fun x => ∃ l, nameL l = true ∧ x = .str (SX.S l)) (Nat.le_trans (show acc.length ≤ 8 by omega) (by decide)) rfl (fun d hd e a2 he => ?_) fun e a2 he h4 h5 => ?_
          · subst he
            obtain ⟨ch, hch, rfl⟩ := h3 d hd
            simp_arith
            have e1 : (cs.take r4.toNat ++ [ch] ++ (cs.drop (r4 + 1).toNat).take (1 + r3 - (r4 + 1)).toNat).length = (1 + r3).toNat := by
              simp only [List.length_append, List.length_take, List.length_drop, List.length_singleton]
              omega
            rw [cutG_to r40, cutG_mid (by omega) (by omega)]
            have e2 : (List.drop (r4 + 1).toNat cs).length ≤ 8 := by (simp only [cutG_none, cutG_but, List.length_append, List.length_take, List.length_drop, List.length_map, List.length_singleton, List.length_flatten, List.length_cons, List.length_nil, List.map_cons, List.map_nil, List.sum_cons, List.sum_nil, List.flatten_cons, List.flatten_nil]; omega)
            refine ⟨by omega, by (simp only [cutG_none, cutG_but, List.length_append, List.length_take, List.length_drop, List.length_map, List.length_singleton, List.length_flatten, List.length_cons, List.length_nil, List.map_cons, List.map_nil, List.sum_cons, List.sum_nil, List.flatten_cons, List.flatten_nil]; omega), by omega, by (simp only [cutG_none, cutG_but, List.length_append, List.length_take, List.length_drop, List.length_map, List.length_singleton, List.length_flatten, List.length_cons, List.length_nil, List.map_cons, List.map_nil, List.sum_cons, List.sum_nil, List.flatten_cons, List.flatten_nil]; omega), ⟨_, rfl, _, nameL_of (l := cs.take r4.toNat ++ [ch] ++ (cs.drop (r4 + 1).toNat).take (1 + r3 - (r4 + 1)).toNat) (by omega) (by omega) fun x hx => ?_, rfl⟩⟩
            · rcases List.mem_append.mp hx with hx | hx
              · rcases List.mem_append.mp hx with hx | hx
                · exact hc x (List.mem_of_mem_take hx)
                · rw [List.mem_singleton.mp hx]; exact hch
              · exact hc x (List.mem_of_mem_drop (List.mem_of_mem_take hx))
          · subst he
            simp_arith
            exact fin _ _ a2 (by rw [h4]; exact hacc) h5

/-! a world, and tellings of it -/
structure Wd where
  y : Int
  o : Int × Int
  b : Int
  s : Int
  ts : List (List Nat)
  ls : List (List Nat)
structure Wd.ok (W : Wd) : Prop where
  st : Stretch W.y W.o
  b0 : 0 ≤ W.b
  b1 : W.b ≤ 999999999992
  s0 : 1 ≤ W.s
  s1 : W.s ≤ 9
  t0 : 1 ≤ W.ts.length
  t1 : W.ts.length ≤ 4
  l0 : 1 ≤ W.ls.length
  l1 : W.ls.length ≤ 5
  tn : ∀ l ∈ W.ts, nameL l = true
  ln : ∀ l ∈ W.ls, nameL l = true
def wkv (W : Wd) : List (PyData × PyData) := [(.str (SX.S [98, 121]), .int W.y), (.str (SX.S [111, 102, 102]), pairD W.o), (.str (SX.S [98, 101, 103, 105, 110]), .int W.b), (.str (SX.S [115, 112, 97, 110]), .int W.s), (.str (SX.S [116, 104, 105, 110, 103, 115]), namesD W.ts), (.str (SX.S [108, 97, 110, 100, 115]), namesD W.ls)]
def Wd.D (W : Wd) : PyData := .dict (wkv W)
def wKeys : List Key := [.inr (SX.S [98, 121]), .inr (SX.S [111, 102, 102]), .inr (SX.S [98, 101, 103, 105, 110]), .inr (SX.S [115, 112, 97, 110]), .inr (SX.S [116, 104, 105, 110, 103, 115]), .inr (SX.S [108, 97, 110, 100, 115])]
theorem wKeys_nodup : wKeys.Nodup := by decide +kernel
theorem kDictb_W {P : MEnv → RV → Prop} {e : MEnv} {W : Wd} (h : P e (.own W.D)) : kDictb P e [.str (SX.S [98, 121]), .int W.y, .str (SX.S [111, 102, 102]), pairD W.o, .str (SX.S [98, 101, 103, 105, 110]), .int W.b, .str (SX.S [115, 112, 97, 110]), .int W.s, .str (SX.S [116, 104, 105, 110, 103, 115]), namesD W.ts, .str (SX.S [108, 97, 110, 100, 115]), namesD W.ls] :=
  ⟨(wKeys, [.int W.y, pairD W.o, .int W.b, .int W.s, namesD W.ts, namesD W.ls]), rfl, ⟨wKeys_nodup, (show (6 : Nat) ≤ 15 by decide)⟩, h⟩
theorem findK_cons {k : Key} {p : PyData × PyData} {r : List (PyData × PyData)} : findK k (p :: r) = if keyOf p.1 = some k then some p.2 else findK k r := rfl
theorem key_str (x : Str) : keyOf (.str x) = some (.inr x) := rfl
theorem S_ne {a b : List Nat} (h : a ≠ b) : ¬ (some (.inr (SX.S a)) : Option Key) = some (.inr (SX.S b)) := fun z => h (S_eq.mp (by cases z; rfl))
theorem wkv_flat (W : Wd) : flatKs (wkv W) = true := rfl
theorem wd_by (W : Wd) : ixD W.D (.str (SX.S [98, 121])) = some (.fz (.int W.y)) := by
  unfold Wd.D
  rw [ixD_ds, wkv_flat, if_pos rfl]
  unfold wkv
  rw [findK_cons, key_str, if_pos rfl]
  rfl
theorem wd_off (W : Wd) : ixD W.D (.str (SX.S [111, 102, 102])) = some (.fz (pairD W.o)) := by
  unfold Wd.D
  rw [ixD_ds, wkv_flat, if_pos rfl]
  unfold wkv
  rw [findK_cons, key_str, if_neg (S_ne (by decide)), findK_cons, key_str, if_pos rfl]
  rfl
theorem wd_begin (W : Wd) : ixD W.D (.str (SX.S [98, 101, 103, 105, 110])) = some (.fz (.int W.b)) := by
  unfold Wd.D
  rw [ixD_ds, wkv_flat, if_pos rfl]
  unfold wkv
  rw [findK_cons, key_str, if_neg (S_ne (by decide)), findK_cons, key_str, if_neg (S_ne (by decide)), findK_cons, key_str, if_pos rfl]
  rfl
theorem wd_span (W : Wd) : ixD W.D (.str (SX.S [115, 112, 97, 110])) = some (.fz (.int W.s)) := by
  unfold Wd.D
  rw [ixD_ds, wkv_flat, if_pos rfl]
  unfold wkv
  rw [findK_cons, key_str, if_neg (S_ne (by decide)), findK_cons, key_str, if_neg (S_ne (by decide)), findK_cons, key_str, if_neg (S_ne (by decide)), findK_cons, key_str, if_pos rfl]
  rfl
theorem wd_things (W : Wd) : ixD W.D (.str (SX.S [116, 104, 105, 110, 103, 115])) = some (.fz (namesD W.ts)) := by
  unfold Wd.D
  rw [ixD_ds, wkv_flat, if_pos rfl]
  unfold wkv
  rw [findK_cons, key_str, if_neg (S_ne (by decide)), findK_cons, key_str, if_neg (S_ne (by decide)), findK_cons, key_str, if_neg (S_ne (by decide)), findK_cons, key_str, if_neg (S_ne (by decide)), findK_cons, key_str, if_pos rfl]
  rfl
theorem wd_lands (W : Wd) : ixD W.D (.str (SX.S [108, 97, 110, 100, 115])) = some (.fz (namesD W.ls)) := by
  unfold Wd.D
  rw [ixD_ds, wkv_flat, if_pos rfl]
  unfold wkv
  rw [findK_cons, key_str, if_neg (S_ne (by decide)), findK_cons, key_str, if_neg (S_ne (by decide)), findK_cons, key_str, if_neg (S_ne (by decide)), findK_cons, key_str, if_neg (S_ne (by decide)), findK_cons, key_str, if_neg (S_ne (by decide)), findK_cons, key_str, if_pos rfl]
  rfl
theorem world_ok {ns : List Int} {p c : Int} {P : List SV → RV → Prop} (k : ∀ (p' c' : Int) (W : Wd), W.ok → P [.own (penD ns p' c')] (.own W.D)) : WC c_law_world [.own (penD ns p c)] P := by
  unfold c_law_world b_law_world
  simp_arith
  refine stretch_ok fun p1 c1 y o hs => ?_
  simp_arith
  refine wide_ok (by decide) (by decide) fun r1 p2 c2 a2 b2 => ?_
  simp_arith
  refine take_ok (by decide) (by decide) fun r2 p3 c3 a3 b3 => ?_
  simp_arith
  refine wp_at a3 b3 fun d hd => ?_
  have hm := List.mem_of_getElem? hd
  simp only [List.mem_cons, List.not_mem_nil, or_false] at hm
  obtain ⟨b, rfl, hb0, hb1⟩ : ∃ b : Int, d = .int b ∧ 0 ≤ b ∧ b ≤ 999999999992 := by
    rcases hm with rfl | rfl | rfl | rfl <;> exact ⟨_, rfl, by omega, by omega⟩
  clear hd hm
  simp_arith
  refine take_ok (by decide) (by decide) fun r3 p4 c4 a4 b4 => ?_
  simp_arith
  refine take_ok (by decide) (by decide) fun r4 p5 c5 a5 b5 => ?_
  simp_arith
  refine names_ok (by omega) (by omega) fun p6 c6 ts l6 n6 => ?_
  simp_arith
  refine take_ok (by decide) (by decide) fun r5 p7 c7 a7 b7 => ?_
  simp_arith
  refine names_ok (by omega) (by omega) fun p8 c8 ls l8 n8 => ?_
  simp_arith
  refine kDictb_W (W := ⟨y, o, b, 1 + r3, ts, ls⟩) ?_
  simp_arith
  exact k _ _ ⟨y, o, b, 1 + r3, ts, ls⟩ ⟨hs, hb0, hb1, by dsimp only; omega, by dsimp only; omega, by dsimp only; omega, by dsimp only; omega, by dsimp only; omega, by dsimp only; omega, n6, n8⟩
/-- numbers of a spot, not far -/
def farI (i : Int) : Prop := -300000000000 ≤ i ∧ i ≤ 300000000000
theorem spot_ok {ns : List Int} {p c : Int} {W : Wd} {P : List SV → RV → Prop} (hW : W.ok) (k : ∀ (p' c' : Int) (q : Int × Int), farI q.1 → farI q.2 → P [.own (penD ns p' c'), .own W.D] (.fz (pairD q))) : WC c_law_spot [.own (penD ns p c), .own W.D] P := by
  obtain ⟨k1, k2, a1, a2, b1, b2⟩ := hW.st
  unfold c_law_spot b_law_spot
  simp_arith [wd_by]
  refine wlc_two ?_
  simp_arith
  refine take_ok (by decide) (by decide) fun r1 p1 c1 q1 q2 => ?_
  simp_arith
  refine ⟨.inr (by omega), ?_⟩
  refine wide_ok (by omega) (by omega) fun r2 p2 c2 q3 q4 => ?_
  simp_arith [wd_off, ix_pair0]
  refine take_ok (by decide) (by decide) fun r3 p3 c3 q5 q6 => ?_
  simp_arith
  refine ⟨.inr (by omega), ?_⟩
  refine wide_ok (by omega) (by omega) fun r4 p4 c4 q7 q8 => ?_
  simp_arith [wd_off, ix_pair1]
  have m1 := Int.mul_le_mul_of_nonneg_right (show -2 ≤ r1 - 2 by omega) (show 0 ≤ W.y by omega)
  have m2 := Int.mul_le_mul_of_nonneg_right (show r1 - 2 ≤ 14 by omega) (show 0 ≤ W.y by omega)
  have m3 := Int.mul_le_mul_of_nonneg_right (show -2 ≤ r3 - 2 by omega) (show 0 ≤ W.y by omega)
  have m4 := Int.mul_le_mul_of_nonneg_right (show r3 - 2 ≤ 14 by omega) (show 0 ≤ W.y by omega)
  exact k _ _ ((r1 - 2) * W.y + r2 + W.o.1, (r3 - 2) * W.y + r4 + W.o.2) ⟨by dsimp only; omega, by dsimp only; omega⟩ ⟨by dsimp only; omega, by dsimp only; omega⟩
/-- a shape, drawn -/
structure Drawn (W : Wd) (ss : List Bx) : Prop where
  l0 : 1 ≤ ss.length
  l1 : ss.length ≤ 6
  ch : Linked ss
  sm : ∀ b ∈ ss, Small 6 b
def Wd.sh (W : Wd) (ss : List Bx) : List Bx := ss.map (str1 W.y W.o)
def landT (t : Int) (n o : List Nat) (bs : List Bx) (w : Int) : PyData := .tuple [.str (SX.S landL), .int t, .str (SX.S n), .str (SX.S o), .tuple (bs.map boxD), .int w]
def dropT (t : Int) (n : List Nat) : PyData := .tuple [.str (SX.S dropL), .int t, .str (SX.S n)]
def freeT (t : Int) (n : List Nat) : PyData := .tuple [.str (SX.S freeL), .int t, .str (SX.S n)]
def spotT (t : Int) (n : List Nat) (q : Int × Int) : PyData := .tuple [.str (SX.S spotL), .int t, .str (SX.S n), pairD q]
theorem mem_at {α : Type} {xs : List α} {i : Nat} {a : α} (h : xs[i]? = some a) : a ∈ xs := List.mem_of_getElem? h
theorem names_at {ls : List (List Nat)} {i : Int} {Q : PyData → Prop} (h0 : 0 ≤ i) (h : i < ls.length) (k : ∀ l ∈ ls, Q (.str (SX.S l))) : Wp (atI (ls.map fun l => PyData.str (SX.S l)) i) Q := by
  refine wp_at h0 (by rw [List.length_map]; exact h) fun a ha => ?_
  rw [List.getElem?_map] at ha
  obtain ⟨l, hl, rfl⟩ := Option.map_eq_some_iff.mp ha
  exact k l (List.mem_of_getElem? hl)

theorem stretched_own {bs : List Bx} {k : Int} {o : Int × Int} {P : List SV → RV → Prop} (hl : bs.length ≤ 1000) (hb : ∀ b ∈ bs, Small 6 b) (hk0 : 0 ≤ k) (hk1 : k < 18446744073709551616) (kk : P [.fz (boxesD bs), .fz (.int k), .fz (pairD o)] (.fz (.tuple ((bs.map (str1 k o)).map boxD)))) :
    WC c_law_stretched [.own (boxesD bs), .fz (.int k), .fz (pairD o)] P := by
  unfold c_law_stretched b_law_stretched
  unfold boxesD pairD at *
  simp_arith
  refine wfor (fun i e => ∃ s4 s5 s6 : SV, (s4.lock = false ∧ s5.lock = false ∧ s6.lock = false) ∧ e = [.rfz (.list (bs.map boxD)), .fz (.int k), .fz (.tuple [.int o.1, .int o.2]), .own (.list (((bs.take i).map (str1 k o)).map boxD)), s4, s5, s6])
    ⟨_, _, _, ⟨rfl, rfl, rfl⟩, rfl⟩ (fun i d hd e he => ?_) fun e he => ?_
  · obtain ⟨s4, s5, s6, ⟨l4, l5, l6⟩, rfl⟩ := he
    rw [List.getElem?_map] at hd
    obtain ⟨b, hb2, rfl⟩ := Option.map_eq_some_iff.mp hd
    have hi := (List.getElem?_eq_some_iff.mp hb2).1
    have hsm := hb b (List.mem_of_getElem? hb2)
    have eb : ∀ b : Bx, boxD b = .tuple [.tuple [.int b.1.1, .int b.1.2], .tuple [.int b.2.1, .int b.2.2]] := fun _ => rfl
    simp_arith [l4, l5, l6, eb]
    refine ⟨.inr ⟨by omega, hk1⟩, .inr ⟨by omega, hk1⟩, .inr ⟨by omega, hk1⟩, .inr ⟨by omega, hk1⟩, by rw [List.length_map, List.length_map, List.length_take]; omega, .fz (pairD b.1), .fz (pairD b.2), .fz (.tuple [.int (b.1.1 * k + o.1), .int (b.1.2 * k + o.2)]), ⟨rfl, rfl, rfl⟩, ?_⟩
    rw [List.take_succ, hb2, Option.toList_some, List.map_append, List.map_append]
    rfl
  · obtain ⟨s4, s5, s6, ⟨l4, l5, l6⟩, rfl⟩ := he
    rw [List.length_map, List.take_length]
    simp_arith
    exact kk


theorem rep_one {α : Type} {x : α} : ∀ n : Nat, (List.replicate n [x]).flatten = List.replicate n x
  | 0 => rfl
  | n + 1 => by rw [List.replicate_succ, List.flatten_cons, rep_one n, List.replicate_succ]; rfl
theorem land_ok {ns : List Int} {p c t : Int} {W : Wd} {P : List SV → RV → Prop} (hW : W.ok) (k : ∀ (p' c' : Int) (n o : List Nat) (ss : List Bx) (w : Int), n ∈ W.ls → (o = [] ∨ o ∈ W.ls) → Drawn W ss → 0 ≤ w → w ≤ 30000000000 → P [.own (penD ns p' c'), .own W.D, .fz (.int t)] (.fz (landT t n o (W.sh ss) w))) : WC c_law_land [.own (penD ns p c), .own W.D, .fz (.int t)] P := by
  have hst := hW.st
  obtain ⟨k1, k2, a1, a2, b1, b2⟩ := hW.st
  have l0 := hW.l0
  have l1 := hW.l1
  unfold c_law_land b_law_land
  simp_arith [wd_lands, wd_by]
  have hn : namesD W.ls = .list (W.ls.map fun l => .str (SX.S l)) := rfl
  rw [hn]
  simp_arith
  have hL : (W.ls.map fun l => PyData.str (SX.S l)).length = W.ls.length := List.length_map ..
  rw [hL, rep_one, Int.toNat_natCast, List.length_replicate]
  refine ⟨by omega, by omega, ?_⟩
  refine take_ok (by omega) (by omega) fun r1 p1 c1 q1 q2 => ?_
  simp_arith
  refine wp_at q1 (by rw [List.length_append, List.length_replicate, hL]; omega) fun d hd => ?_
  obtain ⟨o, rfl, ho⟩ : ∃ o, d = .str (SX.S o) ∧ (o = [] ∨ o ∈ W.ls) := by
    rcases List.mem_append.mp (List.mem_of_getElem? hd) with h | h
    · exact ⟨[], (List.mem_replicate.mp h).2, .inl rfl⟩
    · obtain ⟨l, h1, rfl⟩ := List.mem_map.mp h
      exact ⟨l, rfl, .inr h1⟩
  clear hd
  simp_arith
  refine take_ok (by decide) (by decide) fun r2 p2 c2 q3 q4 => ?_
  simp_arith
  refine wp_at q3 q4 fun d hd => ?_
  have hm := List.mem_of_getElem? hd
  simp only [List.mem_cons, List.not_mem_nil, or_false] at hm
  obtain ⟨m, rfl, m0, m1⟩ : ∃ m : Int, d = .int m ∧ 0 < m ∧ m ≤ 6 := by
    rcases hm with rfl | rfl | rfl | rfl <;> exact ⟨_, rfl, by omega, by omega⟩
  clear hd hm
  simp_arith
  refine boxes_ok m0 m1 fun p3 c3 ss s0 s1 s2 s3 => ?_
  simp_arith
  refine take_ok (by decide) (by decide) fun r4 p4 c4 q5 q6 => ?_
  simp_arith
  refine wp_at q5 q6 fun d hd => ?_
  have hm := List.mem_of_getElem? hd
  simp only [List.mem_cons, List.not_mem_nil, or_false] at hm
  obtain ⟨u, rfl, u0, u1⟩ : ∃ u : Int, d = .int u ∧ 0 ≤ u ∧ u ≤ 3 := by
    rcases hm with rfl | rfl | rfl | rfl | rfl <;> exact ⟨_, rfl, by omega, by omega⟩
  clear hd hm
  simp_arith
  refine ⟨.inl (by omega), ?_⟩
  refine take_ok (by decide) (by decide) fun r5 p5 c5 q7 q8 => ?_
  simp_arith
  refine wp_at q7 q8 fun d hd => ?_
  have hm := List.mem_of_getElem? hd
  simp only [List.mem_cons, List.not_mem_nil, or_false] at hm
  obtain ⟨v, rfl, v0, v1⟩ : ∃ v : Int, d = .int v ∧ 0 < v ∧ v ≤ 2 := by
    rcases hm with rfl | rfl <;> exact ⟨_, rfl, by omega, by omega⟩
  clear hd hm
  simp_arith
  refine ⟨⟨by omega, by omega⟩, ?_⟩
  simp_arith [hL]
  refine take_ok (by omega) (by omega) fun r6 p6 c6 q9 q10 => ?_
  simp_arith
  refine names_at q9 q10 fun n hn => ?_
  simp_arith [wd_off]
  refine stretched_own (by omega) s3 (by omega) (by omega) ?_
  simp_arith
  have w0 : 0 ≤ u * W.y / v := Int.ediv_nonneg (Int.mul_nonneg u0 (by omega)) (by omega)
  have w1 : u * W.y / v ≤ 30000000000 := by
    have e1 := Int.mul_le_mul_of_nonneg_right u1 (show 0 ≤ W.y by omega)
    have e2 := Int.ediv_le_self v (Int.mul_nonneg u0 (show 0 ≤ W.y by omega))
    omega
  exact k _ _ n o ss _ hn ho ⟨s0, by omega, s2, s3⟩ w0 w1

/-! tellings -/
inductive Tel
  | land (t : Int) (n o : List Nat) (bs : List Bx) (w : Int)
  | drop (t : Int) (n : List Nat)
  | free (t : Int) (n : List Nat)
  | spot (t : Int) (n : List Nat) (q : Int × Int)
def Tel.D : Tel → PyData
  | .land t n o bs w => landT t n o bs w
  | .drop t n => dropT t n
  | .free t n => freeT t n
  | .spot t n q => spotT t n q
def farN (k : Nat) (i : Int) : Prop := i.natAbs ≤ 10000000000000 + k
def boxN (b : Bx) : Prop := farN 0 b.1.1 ∧ farN 0 b.1.2 ∧ farN 0 b.2.1 ∧ farN 0 b.2.2
/-- numbers that are not too far, names that are names; k counts how often it was bent -/
def TelB (k : Nat) : Tel → Prop
  | .land t n o bs w => farN 0 t ∧ nameL n = true ∧ (o = [] ∨ nameL o = true) ∧ (∀ b ∈ bs, boxN b) ∧ bs ≠ [] ∧ bs.length ≤ 6 + k ∧ farN k w
  | .drop t n => farN 0 t ∧ nameL n = true
  | .free t n => farN 0 t ∧ nameL n = true
  | .spot t n q => farN 0 t ∧ nameL n = true ∧ farN k q.1 ∧ farN k q.2
/-- what is drawn -/
inductive Told (W : Wd) : Tel → Prop
  | land {t : Int} {n o : List Nat} {ss : List Bx} {w : Int} : W.b ≤ t → t < W.b + W.s → n ∈ W.ls → (o = [] ∨ o ∈ W.ls) → Drawn W ss → 0 ≤ w → w ≤ 30000000000 → Told W (.land t n o (W.sh ss) w)
  | drop {t : Int} {n : List Nat} : W.b ≤ t → t < W.b + W.s → n ∈ W.ls → Told W (.drop t n)
  | free {t : Int} {n : List Nat} : W.b ≤ t → t < W.b + W.s → n ∈ W.ts → Told W (.free t n)
  | spot {t : Int} {n : List Nat} {q : Int × Int} : W.b ≤ t → t < W.b + W.s → n ∈ W.ts → farI q.1 → farI q.2 → Told W (.spot t n q)
theorem tel_ok {ns : List Int} {p c : Int} {W : Wd} {P : List SV → RV → Prop} (hW : W.ok) (k : ∀ (p' c' : Int) (x : Tel), Told W x → P [.own (penD ns p' c'), .own W.D] (.fz x.D)) : WC c_law_telling [.own (penD ns p c), .own W.D] P := by
  have hb0 := hW.b0
  have hb1 := hW.b1
  have hs0 := hW.s0
  have hs1 := hW.s1
  have ht0 := hW.t0
  have hl0 := hW.l0
  have ht1 := hW.t1
  have hl1 := hW.l1
  have hn1 : namesD W.ts = .list (W.ts.map fun l => .str (SX.S l)) := rfl
  have hn2 : namesD W.ls = .list (W.ls.map fun l => .str (SX.S l)) := rfl
  have hL : (W.ls.map fun l => PyData.str (SX.S l)).length = W.ls.length := List.length_map ..
  have hT : (W.ts.map fun l => PyData.str (SX.S l)).length = W.ts.length := List.length_map ..
  unfold c_law_telling b_law_telling
  simp_arith
  refine take_ok (by decide) (by decide) fun r1 p1 c1 a1 b1 => ?_
  simp_arith [wd_begin, wd_span]
  refine take_ok (by omega) (by omega) fun r2 p2 c2 a2 b2 => ?_
  simp_arith [wd_things, hn1, hT]
  refine take_ok (by omega) (by omega) fun r3 p3 c3 a3 b3 => ?_
  simp_arith
  refine names_at a3 b3 fun n hn => ?_
  simp_arith
  refine kIf_i (fun hc => ?_) fun hc => ?_
  · simp_arith
    refine land_ok hW fun p4 c4 m o ss w hm ho hs w0 w1 => ?_
    simp_arith
    exact k _ _ _ (Told.land (by omega) (by omega) hm ho hs w0 w1)
  · simp_arith
    refine kIf_i (fun hc => ?_) fun hc => ?_
    · simp_arith [wd_lands, hn2, hL]
      refine take_ok (by omega) (by omega) fun r4 p4 c4 a4 b4 => ?_
      simp_arith
      refine names_at a4 b4 fun m hm => ?_
      simp_arith
      exact k _ _ (.drop (W.b + r2) m) (Told.drop (by omega) (by omega) hm)
    · simp_arith
      refine kIf_i (fun hc => ?_) fun hc => ?_
      · simp_arith
        exact k _ _ (.free (W.b + r2) n) (Told.free (by omega) (by omega) hn)
      · simp_arith
        refine spot_ok hW fun p4 c4 q f1 f2 => ?_
        simp_arith
        exact k _ _ (.spot (W.b + r2) n q) (Told.spot (by omega) (by omega) hn f1 f2)
theorem Drawn.near {W : Wd} (hW : W.ok) {ss : List Bx} (h : Drawn W ss) : ∀ b ∈ W.sh ss, -1000000000000 < b.1.1 ∧ b.1.1 ≤ b.2.1 ∧ b.2.1 < 1000000000000 ∧ -1000000000000 < b.1.2 ∧ b.1.2 ≤ b.2.2 ∧ b.2.2 < 1000000000000 := fun b hb => by
  obtain ⟨c, hc, rfl⟩ := List.mem_map.mp hb
  have hbx := str1_box hW.st (h.sm c hc)
  obtain ⟨k1, k2, a1, a2, b1, b2⟩ := hW.st
  obtain ⟨h1, h2, h3, h4, h5, h6, h7, h8⟩ := h.sm c hc
  have e1 := Int.mul_le_mul_of_nonneg_right (show -24 ≤ c.1.1 by omega) (show 0 ≤ W.y by omega)
  have e2 := Int.mul_le_mul_of_nonneg_right (show -24 ≤ c.1.2 by omega) (show 0 ≤ W.y by omega)
  have e3 := Int.mul_le_mul_of_nonneg_right (show c.2.1 ≤ 39 by omega) (show 0 ≤ W.y by omega)
  have e4 := Int.mul_le_mul_of_nonneg_right (show c.2.2 ≤ 39 by omega) (show 0 ≤ W.y by omega)
  have e5 := Int.mul_le_mul_of_nonneg_right h7 (show 0 ≤ W.y by omega)
  have e6 := Int.mul_le_mul_of_nonneg_right h8 (show 0 ≤ W.y by omega)
  have e7 := Int.mul_le_mul_of_nonneg_right h5 (show 0 ≤ W.y by omega)
  have e8 := Int.mul_le_mul_of_nonneg_right h6 (show 0 ≤ W.y by omega)
  unfold str1
  refine ⟨?_, ?_, ?_, ?_, ?_, ?_⟩ <;> dsimp only <;> omega
theorem Told.bent {W : Wd} (hW : W.ok) {x : Tel} (h : Told W x) : TelB 0 x := by
  have hb0 := hW.b0
  have hb1 := hW.b1
  have hs1 := hW.s1
  cases h with
  | land h1 h2 hn ho hd w0 w1 =>
    refine ⟨by unfold farN; omega, hW.ln _ hn, ho.imp id fun h => hW.ln _ h, fun b hb => ?_, fun z => ?_, ?_, by unfold farN; omega⟩
    · obtain ⟨q1, q2, q3, q4, q5, q6⟩ := hd.near hW b hb
      exact ⟨by unfold farN; omega, by unfold farN; omega, by unfold farN; omega, by unfold farN; omega⟩
    · have := hd.l0
      unfold Wd.sh at z
      rw [List.map_eq_nil_iff] at z
      rw [z] at this
      simp at this
    · unfold Wd.sh
      rw [List.length_map]
      exact hd.l1
  | drop h1 h2 hn => exact ⟨by unfold farN; omega, hW.ln _ hn⟩
  | free h1 h2 hn => exact ⟨by unfold farN; omega, hW.tn _ hn⟩
  | spot h1 h2 hn f1 f2 =>
    unfold farI at f1 f2
    exact ⟨by unfold farN; omega, hW.tn _ hn, by unfold farN; omega, by unfold farN; omega⟩

/-! lists in order: plain -/
structure SO {β : Type} (lt : β → β → Bool) : Prop where
  irr : ∀ a, lt a a = false
  tr : ∀ a b c, lt a b = true → lt b c = true → lt a c = true
  tot : ∀ a b, lt a b = false → lt b a = false → a = b
theorem SO.asym {β : Type} {lt : β → β → Bool} (h : SO lt) {a b : β} (q : lt a b = true) : lt b a = false := by
  cases e : lt b a
  · rfl
  · have := h.tr a b a q e
    rw [h.irr] at this
    cases this
theorem SO.le_lt {β : Type} {lt : β → β → Bool} (h : SO lt) {a b c : β} (q : lt b a = false) (r : lt b c = true) : lt a c = true := by
  cases e : lt a b
  · have := h.tot a b e q
    rw [this]
    exact r
  · exact h.tr _ _ _ e r
theorem SO.neg {β : Type} {lt : β → β → Bool} (h : SO lt) {a b c : β} (q : lt a b = false) (r : lt b c = false) : lt a c = false := by
  cases e : lt a c
  · rfl
  · cases e2 : lt c b
    · have := h.tot b c r e2
      rw [this] at q
      rw [q] at e
      cases e
    · have := h.tr _ _ _ e e2
      rw [q] at this
      cases this
theorem sorted_unique {β : Type} {lt : β → β → Bool} (h : SO lt) : ∀ {xs ys : List β}, xs.Pairwise (fun a b => lt a b = true) → ys.Pairwise (fun a b => lt a b = true) → (∀ a, a ∈ xs ↔ a ∈ ys) → xs = ys
  | [], [], _, _, _ => rfl
  | [], y :: ys, _, _, m => by have := (m y).mpr (by simp); cases this
  | x :: xs, [], _, _, m => by have := (m x).mp (by simp); cases this
  | x :: xs, y :: ys, hx, hy, m => by
    have hx' := List.pairwise_cons.mp hx
    have hy' := List.pairwise_cons.mp hy
    have e : x = y := by
      rcases List.mem_cons.mp ((m x).mp (by simp)) with e | h1
      · exact e
      · rcases List.mem_cons.mp ((m y).mpr (by simp)) with e | h2
        · exact e.symm
        · have := h.tr _ _ _ (hy'.1 x h1) (hx'.1 y h2)
          rw [h.irr] at this
          cases this
    subst e
    rw [sorted_unique h hx'.2 hy'.2 fun a => ?_]
    constructor
    · intro ha
      rcases List.mem_cons.mp ((m a).mp (List.mem_cons_of_mem _ ha)) with e | h1
      · subst e
        have := hx'.1 _ ha
        rw [h.irr] at this
        cases this
      · exact h1
    · intro ha
      rcases List.mem_cons.mp ((m a).mpr (List.mem_cons_of_mem _ ha)) with e | h1
      · subst e
        have := hy'.1 _ ha
        rw [h.irr] at this
        cases this
      · exact h1
/-- of each place the least one, by place -/
structure CountIs {γ β : Type} (lt : β → β → Bool) (pk tk : γ → β) (T L : List γ) : Prop where
  sorted : L.Pairwise (fun a b => lt (pk a) (pk b) = true)
  mem : ∀ x ∈ L, x ∈ T
  least : ∀ y ∈ T, ∃ x ∈ L, pk x = pk y ∧ lt (tk y) (tk x) = false
theorem CountIs.one {γ β : Type} {lt : β → β → Bool} {pk tk : γ → β} {T L : List γ} (h : SO lt) (c : CountIs lt pk tk T L) {x y : γ} (hx : x ∈ L) (hy : y ∈ L) (e : pk x = pk y) : x = y := by
  have s := c.sorted
  clear c
  induction L with
  | nil => cases hx
  | cons a L ih =>
    have s' := List.pairwise_cons.mp s
    rcases List.mem_cons.mp hx with rfl | hx2
    · rcases List.mem_cons.mp hy with rfl | hy2
      · rfl
      · have := s'.1 y hy2
        rw [e, h.irr] at this
        cases this
    · rcases List.mem_cons.mp hy with rfl | hy2
      · have := s'.1 x hx2
        rw [e, h.irr] at this
        cases this
      · exact ih hx2 hy2 s'.2
theorem CountIs.least' {γ β : Type} {lt : β → β → Bool} {pk tk : γ → β} {T L : List γ} (h : SO lt) (c : CountIs lt pk tk T L) {x y : γ} (hx : x ∈ L) (hy : y ∈ T) (e : pk x = pk y) : lt (tk y) (tk x) = false := by
  obtain ⟨z, h1, h2, h3⟩ := c.least y hy
  have : z = x := c.one h h1 hx (h2.trans e.symm)
  subst this
  exact h3
theorem CountIs.uniq {γ β : Type} {lt : β → β → Bool} {pk tk : γ → β} {T T' L L' : List γ} (h : SO lt) (inj : ∀ x y, tk x = tk y → x = y) (m : ∀ x, x ∈ T ↔ x ∈ T') (c : CountIs lt pk tk T L) (c' : CountIs lt pk tk T' L') : L = L' := by
  have em : L.map pk = L'.map pk := by
    refine sorted_unique h (List.pairwise_map.mpr c.sorted) (List.pairwise_map.mpr c'.sorted) fun a => ?_
    constructor
    · intro ha
      obtain ⟨x, hx, rfl⟩ := List.mem_map.mp ha
      obtain ⟨z, h1, h2, _⟩ := c'.least x ((m x).mp (c.mem x hx))
      exact List.mem_map.mpr ⟨z, h1, h2⟩
    · intro ha
      obtain ⟨x, hx, rfl⟩ := List.mem_map.mp ha
      obtain ⟨z, h1, h2, _⟩ := c.least x ((m x).mpr (c'.mem x hx))
      exact List.mem_map.mpr ⟨z, h1, h2⟩
  refine List.ext_getElem? fun i => ?_
  have ei : (L.map pk)[i]? = (L'.map pk)[i]? := by rw [em]
  rw [List.getElem?_map, List.getElem?_map] at ei
  cases e1 : L[i]? with
  | none => rw [e1] at ei; cases e2 : L'[i]? with
    | none => rfl
    | some y => rw [e2] at ei; cases ei
  | some x =>
    rw [e1] at ei
    cases e2 : L'[i]? with
    | none => rw [e2] at ei; cases ei
    | some y =>
      rw [e2] at ei
      have epk : pk x = pk y := Option.some.inj ei
      have hx := List.mem_of_getElem? e1
      have hy := List.mem_of_getElem? e2
      have q1 := c.least' h hx ((m y).mpr (c'.mem y hy)) epk
      have q2 := c'.least' h hy ((m x).mp (c.mem x hx)) epk.symm
      rw [inj x y (h.tot _ _ q2 q1)]
/-- put in ahead of the first that does not stand ahead -/
theorem ins_sorted {γ β : Type} {lt : β → β → Bool} (h : SO lt) {ck : γ → β} {row : List γ} {x : γ} {i : Nat} (s : row.Pairwise (fun a b => lt (ck b) (ck a) = false)) (hi : i ≤ row.length)
    (h1 : ∀ (j : Nat) (a : γ), j < i → row[j]? = some a → lt (ck a) (ck x) = true) (h2 : ∀ a, row[i]? = some a → lt (ck a) (ck x) = false) : (row.take i ++ [x] ++ row.drop i).Pairwise (fun a b => lt (ck b) (ck a) = false) := by
  have sp : (row.take i ++ row.drop i).Pairwise (fun a b => lt (ck b) (ck a) = false) := by rw [List.take_append_drop]; exact s
  obtain ⟨s1, s2, s3⟩ := List.pairwise_append.mp sp
  have before : ∀ a ∈ row.take i, lt (ck a) (ck x) = true := fun a ha => by
    obtain ⟨j, hj⟩ := List.mem_iff_getElem?.mp ha
    rw [List.getElem?_take] at hj
    split at hj
    · exact h1 j a (by assumption) hj
    · cases hj
  have after : ∀ b ∈ row.drop i, lt (ck b) (ck x) = false := fun b hb => by
    cases e : row.drop i with
    | nil => rw [e] at hb; cases hb
    | cons a r =>
      have ha : row[i]? = some a := by
        have := congrArg (fun l => l[0]?) e
        simpa using this
      rw [e] at hb s2
      rcases List.mem_cons.mp hb with rfl | hb
      · exact h2 _ ha
      · exact h.neg ((List.pairwise_cons.mp s2).1 b hb) (h2 _ ha)
  rw [List.append_assoc, List.pairwise_append]
  refine ⟨s1, ?_, fun a ha b hb => ?_⟩
  · show (x :: row.drop i).Pairwise _
    exact List.pairwise_cons.mpr ⟨after, s2⟩
  · rcases List.mem_append.mp hb with hb | hb
    · rw [List.mem_singleton.mp hb]
      exact h.asym (before a ha)
    · exact s3 a ha b hb
/-- of those alike in place the first ones -/
structure Dedup {γ β : Type} (lt : β → β → Bool) (pk ck : γ → β) (R L : List γ) : Prop where
  sorted : L.Pairwise (fun a b => lt (pk a) (pk b) = true)
  mem : ∀ x ∈ L, x ∈ R
  least : ∀ y ∈ R, ∃ x ∈ L, pk x = pk y ∧ lt (ck y) (ck x) = false
  last : ∀ l, L.getLast? = some l → ∀ r, R.getLast? = some r → pk l = pk r
theorem Dedup.keep {γ β : Type} {lt : β → β → Bool} {pk ck : γ → β} {R L : List γ} {x l : γ} (d : Dedup lt pk ck R L) (hl : L.getLast? = some l) (e : pk l = pk x) (hx : ∀ y ∈ R, lt (ck x) (ck y) = false) : Dedup lt pk ck (R ++ [x]) L := by
  refine ⟨d.sorted, fun y hy => List.mem_append_left _ (d.mem y hy), fun y hy => ?_, fun l' hl' r hr => ?_⟩
  · rcases List.mem_append.mp hy with hy | hy
    · exact d.least y hy
    · rw [List.mem_singleton.mp hy]
      have hm : l ∈ L := List.mem_of_getLast? hl
      exact ⟨l, hm, e, hx l (d.mem l hm)⟩
  · rw [List.getLast?_concat] at hr
    cases hr
    rw [hl] at hl'
    cases hl'
    exact e
theorem Dedup.add {γ β : Type} {lt : β → β → Bool} (h : SO lt) {pk ck : γ → β} {R L : List γ} {x : γ} (d : Dedup lt pk ck R L) (hs : ∀ y ∈ R, lt (pk x) (pk y) = false) (ne : ∀ l, L.getLast? = some l → pk l ≠ pk x) : Dedup lt pk ck (R ++ [x]) (L ++ [x]) := by
  have hlt : ∀ y ∈ L, lt (pk y) (pk x) = true := fun y hy => by
    cases e : L.getLast? with
    | none => rw [List.getLast?_eq_none_iff] at e; rw [e] at hy; cases hy
    | some l =>
      have hm : l ∈ L := List.mem_of_getLast? e
      have hl : lt (pk l) (pk x) = true := by
        cases q : lt (pk l) (pk x)
        · exact absurd (h.tot _ _ q (hs l (d.mem l hm))) (ne l e)
        · rfl
      obtain ⟨L', rfl⟩ : ∃ L', L = L' ++ [l] := List.getLast?_eq_some_iff.mp e
      rcases List.mem_append.mp hy with hy | hy
      · exact h.tr _ _ _ ((List.pairwise_append.mp d.sorted).2.2 y hy l (by simp)) hl
      · rw [List.mem_singleton.mp hy]; exact hl
  refine ⟨?_, fun y hy => ?_, fun y hy => ?_, fun l hl r hr => ?_⟩
  · rw [List.pairwise_append]
    exact ⟨d.sorted, List.pairwise_singleton .., fun a ha b hb => by rw [List.mem_singleton.mp hb]; exact hlt a ha⟩
  · rcases List.mem_append.mp hy with hy | hy
    · exact List.mem_append_left _ (d.mem y hy)
    · exact List.mem_append_right _ hy
  · rcases List.mem_append.mp hy with hy | hy
    · obtain ⟨z, h1, h2⟩ := d.least y hy
      exact ⟨z, List.mem_append_left _ h1, h2⟩
    · rw [List.mem_singleton.mp hy]
      exact ⟨x, by simp, rfl, h.irr _⟩
  · rw [List.getLast?_concat] at hl hr
    cases hl
    cases hr
    rfl

/-! the order of tellings -/
abbrev Tok := Int ⊕ List Nat
def lexB : List Tok → List Tok → Bool := PyProof.Rows.lexLt PyProof.Rows.itemOrd
theorem so_lex : SO lexB := ⟨PyProof.Rows.lex_irrefl (O := PyProof.Rows.itemOrd), fun a b c => PyProof.Rows.lex_trans (O := PyProof.Rows.itemOrd) a b c, fun a b => PyProof.Rows.lex_total (O := PyProof.Rows.itemOrd) a b⟩
theorem lexB_pre (p a b : List Tok) : lexB (p ++ a) (p ++ b) = lexB a b := PySem.W.lex_pre p a b
theorem lexB_self (x : Tok) (a b : List Tok) : lexB (x :: a) (x :: b) = lexB a b := PyProof.Rows.lex_self (O := PyProof.Rows.itemOrd) x a b
theorem lexB_diff {x y : Tok} (a b : List Tok) (h : x ≠ y) : lexB (x :: a) (y :: b) = PyProof.Rows.itemLt x y := PyProof.Rows.lex_diff (O := PyProof.Rows.itemOrd) h
/-- of unlike lists, alike long, what follows tells nothing -/
theorem lexB_app : ∀ {p q : List Tok}, p.length = q.length → p ≠ q → ∀ a b, lexB (p ++ a) (q ++ b) = lexB p q
  | [], [], _, h, _, _ => absurd rfl h
  | [], _ :: _, h, _, _, _ => by simp at h
  | _ :: _, [], h, _, _, _ => by simp at h
  | x :: p, y :: q, hl, h, a, b => by
    by_cases e : x = y
    · subst e
      rw [List.cons_append, List.cons_append, lexB_self, lexB_self]
      exact lexB_app (by simpa using hl) (fun z => h (by rw [z])) a b
    · rw [List.cons_append, List.cons_append, lexB_diff _ _ e, lexB_diff _ _ e]
def Tel.word : Tel → List Nat
  | .land .. => landL
  | .drop .. => dropL
  | .free .. => freeL
  | .spot .. => spotL
def Tel.part : Tel → Int
  | .land .. => 0
  | .drop .. => 0
  | .free .. => 1
  | .spot .. => 2
def Tel.time : Tel → Int
  | .land t _ _ _ _ => t
  | .drop t _ => t
  | .free t _ => t
  | .spot t _ _ => t
def Tel.name : Tel → List Nat
  | .land _ n _ _ _ => n
  | .drop _ n => n
  | .free _ n => n
  | .spot _ n _ => n
def Tel.rest : Tel → List PyData
  | .land _ _ o bs w => [.str (SX.S o), .tuple (bs.map boxD), .int w]
  | .drop .. => []
  | .free .. => []
  | .spot _ _ q => [pairD q]
theorem Tel.D_eq (x : Tel) : x.D = .tuple (.str (SX.S x.word) :: .int x.time :: .str (SX.S x.name) :: x.rest) := by cases x <;> rfl
def placeD (x : Tel) : PyData := .tuple [.int x.time, .int x.part, .str (SX.S x.name)]
def placeK (x : Tel) : List Key := [.inl x.time, .inl x.part, .inr (SX.S x.name)]
def pk (x : Tel) : List Tok := [.inl 1, .inl x.time, .inl 1, .inl x.part, .inl 1, .inr x.name, .inl 0]
def tk (x : Tel) : List Tok := .inl 1 :: .inr x.word :: .inl 1 :: .inl x.time :: .inl 1 :: .inr x.name :: PySem.W.keyToksAll x.rest
def ck (x : Tel) : List Tok := pk x ++ tk x
theorem place_toks (x : Tel) : PySem.W.keyToks (placeD x) = pk x := by
  unfold placeD pk
  simp [PySem.W.keyToks, PySem.W.keyToksAll, S_cps]
theorem tel_toks (x : Tel) : PySem.W.keyToks x.D = tk x := by
  rw [Tel.D_eq]
  unfold tk
  simp [PySem.W.keyToks, PySem.W.keyToksAll, S_cps]
theorem pk_inj {x y : Tel} : pk x = pk y ↔ x.time = y.time ∧ x.part = y.part ∧ x.name = y.name := by
  unfold pk
  simp
theorem placeK_inj {x y : Tel} : placeK x = placeK y ↔ pk x = pk y := by
  rw [pk_inj]
  unfold placeK
  simp [S_eq]
theorem placeD_inj {x y : Tel} : placeD x = placeD y ↔ pk x = pk y := by
  rw [pk_inj]
  unfold placeD
  simp [S_eq]
theorem lt_place (x y : Tel) : PySem.W.dataLt (placeD x) (placeD y) = lexB (pk x) (pk y) := by
  unfold PySem.W.dataLt
  rw [place_toks, place_toks]
  rfl
theorem lt_tel (x y : Tel) : PySem.W.dataLt x.D y.D = lexB (tk x) (tk y) := by
  unfold PySem.W.dataLt
  rw [tel_toks, tel_toks]
  rfl
theorem lt_rest (x y : Tel) : PySem.W.dataLt (.tuple x.rest) (.tuple y.rest) = lexB (PySem.W.keyToksAll x.rest) (PySem.W.keyToksAll y.rest) := by
  unfold PySem.W.dataLt
  simp only [PySem.W.keyToks]
  rfl
theorem ck_same {x y : Tel} (h : pk x = pk y) : lexB (ck x) (ck y) = lexB (tk x) (tk y) := by
  unfold ck
  rw [h, lexB_pre]
theorem ck_diff {x y : Tel} (h : pk x ≠ pk y) : lexB (ck x) (ck y) = lexB (pk x) (pk y) := lexB_app (p := pk x) (q := pk y) rfl h (tk x) (tk y)
theorem tk_word {x y : Tel} (h1 : x.time = y.time) (h2 : x.name = y.name) (h : x.word = y.word) : lexB (tk x) (tk y) = lexB (PySem.W.keyToksAll x.rest) (PySem.W.keyToksAll y.rest) := by
  unfold tk
  rw [h1, h2, h, lexB_self, lexB_self, lexB_self, lexB_self, lexB_self, lexB_self]
theorem il_ld : PyProof.Rows.itemLt (.inr landL) (.inr dropL) = decide (landL = dropL) := by decide +kernel
theorem il_dl : PyProof.Rows.itemLt (.inr dropL) (.inr landL) = decide (dropL = dropL) := by decide +kernel
theorem tk_other {x y : Tel} (h : x.part = y.part) (hw : x.word ≠ y.word) : lexB (tk x) (tk y) = decide (x.word = dropL) := by
  have e : lexB (tk x) (tk y) = PyProof.Rows.itemLt (.inr x.word) (.inr y.word) := by
    unfold tk
    rw [lexB_self, lexB_diff _ _ (fun z => hw (Sum.inr.inj z))]
  rw [e]
  clear e
  cases x <;> cases y <;> first | exact absurd rfl hw | (exfalso; simp [Tel.part] at h; done) | exact il_ld | exact il_dl
/-! tokens tell all -/
theorem box_toks (b : Bx) : PySem.W.keyToks (boxD b) = [.inl 1, .inl 1, .inl b.1.1, .inl 1, .inl b.1.2, .inl 0, .inl 1, .inl 1, .inl b.2.1, .inl 1, .inl b.2.2, .inl 0, .inl 0] := by
  have eb : boxD b = .tuple [.tuple [.int b.1.1, .int b.1.2], .tuple [.int b.2.1, .int b.2.2]] := rfl
  rw [eb]
  simp [PySem.W.keyToks, PySem.W.keyToksAll]
theorem boxes_toks : ∀ {bs cs : List Bx} {r r' : List Tok}, PySem.W.keyToksAll (bs.map boxD) ++ r = PySem.W.keyToksAll (cs.map boxD) ++ r' → bs = cs ∧ r = r'
  | [], [], r, r', h => by
    simp [PySem.W.keyToksAll] at h
    exact ⟨rfl, h⟩
  | [], c :: cs, r, r', h => by
    simp [PySem.W.keyToksAll] at h
  | b :: bs, [], r, r', h => by
    simp [PySem.W.keyToksAll] at h
  | b :: bs, c :: cs, r, r', h => by
    rw [List.map_cons, List.map_cons, PySem.W.keyToksAll, PySem.W.keyToksAll, box_toks, box_toks] at h
    simp only [List.cons_append, List.nil_append, List.cons.injEq, Sum.inl.injEq, true_and] at h
    obtain ⟨h1, h2, h3, h4, h5⟩ := h
    obtain ⟨e1, e2⟩ := boxes_toks h5
    refine ⟨?_, e2⟩
    rw [e1]
    congr 1
    exact Prod.ext (Prod.ext h1 h2) (Prod.ext h3 h4)
theorem tk_inj (x y : Tel) (h : tk x = tk y) : x = y := by
  unfold tk at h
  simp only [List.cons.injEq, Sum.inl.injEq, Sum.inr.injEq, true_and] at h
  obtain ⟨h1, h2, h3, h4⟩ := h
  cases x <;> cases y <;> first | (exfalso; exact absurd h1 (by simp only [Tel.word]; decide)) | skip
  · simp only [Tel.time, Tel.name] at h2 h3
    subst h2 h3
    simp only [Tel.rest, PySem.W.keyToksAll, PySem.W.keyToks, S_cps] at h4
    simp only [List.cons_append, List.nil_append, List.cons.injEq, Sum.inr.injEq, true_and] at h4
    obtain ⟨h5, h6⟩ := h4
    obtain ⟨h7, h8⟩ := boxes_toks h6
    subst h5 h7
    simp at h8
    rw [h8]
  · simp only [Tel.time, Tel.name] at h2 h3
    subst h2 h3
    rfl
  · simp only [Tel.time, Tel.name] at h2 h3
    subst h2 h3
    rfl
  · simp only [Tel.time, Tel.name] at h2 h3
    subst h2 h3
    rename_i q q'
    have eq : ∀ q : Int × Int, PySem.W.keyToks (pairD q) = [.inl 1, .inl q.1, .inl 1, .inl q.2, .inl 0] := fun q => by
      show PySem.W.keyToks (.tuple [.int q.1, .int q.2]) = _
      simp [PySem.W.keyToks, PySem.W.keyToksAll]
    simp only [Tel.rest, PySem.W.keyToksAll, eq] at h4
    simp only [List.cons_append, List.nil_append, List.cons.injEq, Sum.inl.injEq, true_and, and_true] at h4
    rw [show q = q' from Prod.ext h4.1 h4.2]
theorem D_inj {x y : Tel} (h : x.D = y.D) : x = y := tk_inj x y (by rw [← tel_toks, ← tel_toks, h])
/-! alike -/
theorem alike_box (b c : Bx) : PySem.W.alike (boxD b) (boxD c) = true := by
  show PySem.W.alike (.tuple [.tuple [.int b.1.1, .int b.1.2], .tuple [.int b.2.1, .int b.2.2]]) (.tuple [.tuple [.int c.1.1, .int c.1.2], .tuple [.int c.2.1, .int c.2.2]]) = true
  simp [PySem.W.alike, PySem.W.alikeAll]
theorem alike_boxes : ∀ bs cs : List Bx, PySem.W.alikeAll (bs.map boxD) (cs.map boxD) = true
  | [], _ => by simp [PySem.W.alikeAll]
  | _ :: _, [] => by simp [PySem.W.alikeAll]
  | b :: bs, c :: cs => by
    rw [List.map_cons, List.map_cons, PySem.W.alikeAll, alike_box, alike_boxes bs cs]
    rfl
theorem alike_rest {x y : Tel} (h : x.word = y.word) : PySem.W.alikeAll x.rest y.rest = true := by
  have ep : ∀ q q' : Int × Int, PySem.W.alike (pairD q) (pairD q') = true := fun q q' => by
    show PySem.W.alike (.tuple [.int q.1, .int q.2]) (.tuple [.int q'.1, .int q'.2]) = true
    simp [PySem.W.alike, PySem.W.alikeAll]
  cases x <;> cases y <;> first | (exfalso; exact absurd h (by simp only [Tel.word]; decide)) | skip
  · simp [Tel.rest, PySem.W.alikeAll, PySem.W.alike, alike_boxes]
  · simp [Tel.rest, PySem.W.alikeAll]
  · simp [Tel.rest, PySem.W.alikeAll]
  · simp [Tel.rest, PySem.W.alikeAll, ep]
theorem alike_tel {x y : Tel} (h : x.part = y.part) : PySem.W.alike x.D y.D = true := by
  rw [Tel.D_eq, Tel.D_eq]
  by_cases hw : x.word = y.word
  · simp [PySem.W.alike, PySem.W.alikeAll, alike_rest hw]
  · cases x <;> cases y <;> first | exact absurd rfl hw | (exfalso; simp [Tel.part] at h; done) | simp [PySem.W.alike, PySem.W.alikeAll, Tel.rest]
theorem alike_place (x y : Tel) : PySem.W.alike (placeD x) (placeD y) = true := by
  unfold placeD
  simp [PySem.W.alike, PySem.W.alikeAll]
theorem boxes_depth (bs : List Bx) : PyData.depthAll (bs.map boxD) ≤ 2 := by
  induction bs with
  | nil => simp [PyData.depthAll]
  | cons b r ih =>
    have eb : (boxD b).depth = 2 := by
      show (PyData.tuple [.tuple [.int b.1.1, .int b.1.2], .tuple [.int b.2.1, .int b.2.2]]).depth = 2
      simp [PyData.depth, PyData.depthAll]
    rw [List.map_cons, PyData.depthAll, eb]
    omega
theorem tel_depth (x : Tel) : x.D.depth ≤ 4 := by
  cases x with
  | land t n o bs w =>
    have := boxes_depth bs
    show (landT t n o bs w).depth ≤ 4
    unfold landT
    simp only [PyData.depth, PyData.depthAll]
    omega
  | drop t n => show (dropT t n).depth ≤ 4; unfold dropT; simp [PyData.depth, PyData.depthAll]
  | free t n => show (freeT t n).depth ≤ 4; unfold freeT; simp [PyData.depth, PyData.depthAll]
  | spot t n q => show (spotT t n q).depth ≤ 4; unfold spotT pairD; simp [PyData.depth, PyData.depthAll]
theorem rest_depth (x : Tel) : (PyData.tuple x.rest).depth ≤ 4 := by
  cases x with
  | land t n o bs w =>
    have := boxes_depth bs
    simp only [Tel.rest, PyData.depth, PyData.depthAll]
    omega
  | drop t n => simp [Tel.rest, PyData.depth, PyData.depthAll]
  | free t n => simp [Tel.rest, PyData.depth, PyData.depthAll]
  | spot t n q => simp [Tel.rest, pairD, PyData.depth, PyData.depthAll]
theorem ltA_tel {x y : Tel} (h : x.part = y.part) : ltAD x.D y.D = some (.fz (.bool (lexB (tk x) (tk y)))) := by
  unfold ltAD
  rw [if_pos ⟨alike_tel h, by rw [Tel.D_eq]; rfl, Nat.le_trans (tel_depth x) (by decide)⟩, lt_tel]
  rfl
theorem ltA_place (x y : Tel) : ltAD (placeD x) (placeD y) = some (.fz (.bool (lexB (pk x) (pk y)))) := by
  unfold ltAD
  rw [if_pos ⟨alike_place x y, rfl, by unfold placeD; simp [PyData.depth, PyData.depthAll]⟩, lt_place]
  rfl
theorem ltA_rest {x y : Tel} (h : x.word = y.word) : ltAD (.tuple x.rest) (.tuple y.rest) = some (.fz (.bool (lexB (PySem.W.keyToksAll x.rest) (PySem.W.keyToksAll y.rest)))) := by
  unfold ltAD
  rw [if_pos ⟨by simp only [PySem.W.alike]; exact alike_rest h, rfl, Nat.le_trans (rest_depth x) (by decide)⟩, lt_rest]
  rfl

/-! the place of a telling; tellings in order, of each place the least -/
theorem look_part (x : Tel) : List.lookup (SX.S x.word) [(SX.S [108, 97, 110, 100], (0 : Int)), (SX.S [100, 114, 111, 112], 0), (SX.S [102, 114, 101, 101], 1), (SX.S [115, 112, 111, 116], 2)] = some x.part := by
  cases x with
  | land t n o bs w => show List.lookup (SX.S landL) _ = some (0 : Int); decide +kernel
  | drop t n => show List.lookup (SX.S dropL) _ = some (0 : Int); decide +kernel
  | free t n => show List.lookup (SX.S freeL) _ = some (1 : Int); decide +kernel
  | spot t n q => show List.lookup (SX.S spotL) _ = some (2 : Int); decide +kernel
theorem place_of_ok {x : Tel} {P : List SV → RV → Prop} (k : P [.fz x.D] (.fz (placeD x))) : WC c_place_of [.fz x.D] P := by
  unfold c_place_of b_place_of
  unfold placeD at k
  rw [Tel.D_eq] at k ⊢
  simp_arith [look_part]
  exact k
theorem pk_dec (x y : Tel) : pk x = pk y ∨ pk x ≠ pk y := Classical.em _
theorem keyT_place (x : Tel) : keyT (placeD x) = some (placeK x) := rfl
theorem placeK_D (x : Tel) : placeD x = .tuple ((placeK x).map keyD) := rfl
def cntD (f : List Tel) : List (PyData × PyData) := f.map fun x => (placeD x, x.D)
theorem findT_cnt (y : Tel) : ∀ f : List Tel, (findT (placeK y) (cntD f) = none ∧ ∀ z ∈ f, pk z ≠ pk y) ∨ ∃ z ∈ f, pk z = pk y ∧ findT (placeK y) (cntD f) = some z.D
  | [] => .inl ⟨rfl, fun z h => by cases h⟩
  | x :: f => by
    show (((if keyT (placeD x) = some (placeK y) then some x.D else findT (placeK y) (cntD f)) = none) ∧ _) ∨ ∃ z ∈ x :: f, pk z = pk y ∧ (if keyT (placeD x) = some (placeK y) then some x.D else findT (placeK y) (cntD f)) = some z.D
    rw [keyT_place]
    by_cases h : pk x = pk y
    · rw [if_pos (by rw [placeK_inj.mpr h])]
      exact .inr ⟨x, by simp, h, rfl⟩
    · rw [if_neg (fun z => h (placeK_inj.mp (Option.some.inj z)))]
      rcases findT_cnt y f with ⟨h1, h2⟩ | ⟨z, h1, h2, h3⟩
      · refine .inl ⟨h1, fun z hz => ?_⟩
        rcases List.mem_cons.mp hz with rfl | hz
        · exact h
        · exact h2 z hz
      · exact .inr ⟨z, List.mem_cons_of_mem _ h1, h2, h3⟩
theorem tupKs_cnt (f : List Tel) : tupKs (cntD f) = true := by
  unfold tupKs cntD
  rw [List.all_eq_true]
  intro p hp
  obtain ⟨x, _, rfl⟩ := List.mem_map.mp hp
  rfl
theorem put_new {f : List Tel} {x : Tel} (h : ∀ z ∈ f, pk z ≠ pk x) : putTD (cntD f) (placeK x) x.D = cntD (f ++ [x]) := by
  unfold putTD
  rcases findT_cnt x f with ⟨h1, _⟩ | ⟨z, h1, h2, _⟩
  · rw [h1, if_neg (by simp)]
    unfold cntD
    rw [List.map_append]
    rfl
  · exact absurd h2 (h z h1)
theorem put_old {f : List Tel} {x z : Tel} (hz : z ∈ f) (h : pk z = pk x) : putTD (cntD f) (placeK x) x.D = cntD (f.map fun y => if y.time = x.time ∧ y.part = x.part ∧ y.name = x.name then x else y) := by
  unfold putTD
  rcases findT_cnt x f with ⟨_, h1⟩ | ⟨z', _, _, h3⟩
  · exact absurd h (h1 z hz)
  · rw [h3, if_pos (by rfl)]
    unfold cntD
    rw [List.map_map, List.map_map]
    refine List.map_congr_left fun y _ => ?_
    show (if keyT (placeD y) = some (placeK x) then (placeD y, x.D) else (placeD y, y.D)) = _
    rw [keyT_place]
    by_cases e : pk y = pk x
    · rw [if_pos (by rw [placeK_inj.mpr e])]
      show _ = (placeD (if _ then x else y), (if _ then x else y : Tel).D)
      rw [if_pos (pk_inj.mp e), placeD_inj.mpr e]
    · rw [if_neg (fun z => e (placeK_inj.mp (Option.some.inj z)))]
      show _ = (placeD (if _ then x else y), (if _ then x else y : Tel).D)
      rw [if_neg (fun z => e (pk_inj.mpr z))]
structure Cnt (T f : List Tel) : Prop where
  dist : f.Pairwise fun a b => pk a ≠ pk b
  mem : ∀ x ∈ f, x ∈ T
  least : ∀ y ∈ T, ∃ x ∈ f, pk x = pk y ∧ lexB (tk y) (tk x) = false
theorem Cnt.nil : Cnt [] [] := ⟨.nil, fun x h => h, fun y h => by cases h⟩
theorem Cnt.new {T f : List Tel} {x : Tel} (c : Cnt T f) (h : ∀ z ∈ f, pk z ≠ pk x) : Cnt (T ++ [x]) (f ++ [x]) := by
  refine ⟨?_, fun y hy => ?_, fun y hy => ?_⟩
  · rw [List.pairwise_append]
    exact ⟨c.dist, List.pairwise_singleton .., fun a ha b hb => by rw [List.mem_singleton.mp hb]; exact h a ha⟩
  · rcases List.mem_append.mp hy with hy | hy
    · exact List.mem_append_left _ (c.mem y hy)
    · exact List.mem_append_right _ hy
  · rcases List.mem_append.mp hy with hy | hy
    · obtain ⟨z, h1, h2⟩ := c.least y hy
      exact ⟨z, List.mem_append_left _ h1, h2⟩
    · rw [List.mem_singleton.mp hy]
      exact ⟨x, by simp, rfl, so_lex.irr _⟩
theorem Cnt.keep {T f : List Tel} {x z : Tel} (c : Cnt T f) (hz : z ∈ f) (e : pk z = pk x) (h : lexB (tk x) (tk z) = false) : Cnt (T ++ [x]) f := by
  refine ⟨c.dist, fun y hy => List.mem_append_left _ (c.mem y hy), fun y hy => ?_⟩
  rcases List.mem_append.mp hy with hy | hy
  · exact c.least y hy
  · rw [List.mem_singleton.mp hy]
    exact ⟨z, hz, e, h⟩
theorem Cnt.less {T f : List Tel} {x z : Tel} (c : Cnt T f) (hz : z ∈ f) (e : pk z = pk x) (h : lexB (tk x) (tk z) = true) : Cnt (T ++ [x]) (f.map fun y => if y.time = x.time ∧ y.part = x.part ∧ y.name = x.name then x else y) := by
  have pks : ∀ y : Tel, pk (if y.time = x.time ∧ y.part = x.part ∧ y.name = x.name then x else y) = pk y := fun y => by
    split
    · rename_i q; exact (pk_inj.mpr q).symm
    · rfl
  have one : ∀ {y : Tel}, y ∈ f → pk y = pk x → y = z := fun {y} hy q => by
    have d := c.dist
    clear c h
    induction f with
    | nil => cases hy
    | cons a f ih =>
      have d' := List.pairwise_cons.mp d
      rcases List.mem_cons.mp hy with r1 | r1
      · rcases List.mem_cons.mp hz with r2 | r2
        · rw [r1, r2]
        · exact absurd (by rw [← r1, q, e]) (d'.1 z r2)
      · rcases List.mem_cons.mp hz with r2 | r2
        · exact absurd (by rw [← r2, q, e]) (d'.1 y r1)
        · exact ih r2 r1 d'.2
  refine ⟨?_, fun y hy => ?_, fun y hy => ?_⟩
  · rw [List.pairwise_map]
    exact c.dist.imp fun {a b} q => by rw [pks, pks]; exact q
  · obtain ⟨w, hw, rfl⟩ := List.mem_map.mp hy
    split
    · exact List.mem_append_right _ (by simp)
    · exact List.mem_append_left _ (c.mem w hw)
  · have hx : x ∈ f.map fun y => if y.time = x.time ∧ y.part = x.part ∧ y.name = x.name then x else y := List.mem_map.mpr ⟨z, hz, if_pos (pk_inj.mp e)⟩
    rcases List.mem_append.mp hy with hy | hy
    · obtain ⟨w, h1, h2, h3⟩ := c.least y hy
      by_cases q : pk w = pk x
      · have := one h1 q
        subst this
        refine ⟨x, hx, q.symm.trans h2, ?_⟩
        cases r : lexB (tk y) (tk x)
        · rfl
        · have := so_lex.tr _ _ _ r h
          rw [h3] at this
          cases this
      · exact ⟨w, List.mem_map.mpr ⟨w, h1, if_neg (fun z => q (pk_inj.mpr z))⟩, h2, h3⟩
    · rw [List.mem_singleton.mp hy]
      exact ⟨x, hx, rfl, so_lex.irr _⟩
def cntS (f : List Tel) : List Tel := f.mergeSort fun a b => !lexB (pk b) (pk a)
theorem cntS_count {T f : List Tel} (c : Cnt T f) : CountIs lexB pk tk T (cntS f) := by
  have pm : (cntS f).Perm f := List.mergeSort_perm _ _
  have s1 : (cntS f).Pairwise fun a b => (!lexB (pk b) (pk a)) = true := by
    refine List.pairwise_mergeSort (le := fun a b => !lexB (pk b) (pk a)) (fun a b d h1 h2 => ?_) (fun a b => ?_) f
    · simp only [Bool.not_eq_true'] at h1 h2 ⊢
      exact so_lex.neg h2 h1
    · cases h : lexB (pk b) (pk a)
      · rfl
      · rw [so_lex.asym h]; rfl
  have s2 : (cntS f).Pairwise fun a b => pk a ≠ pk b := pm.symm.pairwise c.dist fun {a b} h e => h e.symm
  refine ⟨?_, fun x hx => c.mem x (pm.mem_iff.mp hx), fun y hy => ?_⟩
  · refine (s1.and s2).imp fun {a b} h => ?_
    simp only [Bool.not_eq_true'] at h
    cases q : lexB (pk a) (pk b)
    · exact absurd (so_lex.tot _ _ q h.1) h.2
    · rfl
  · obtain ⟨x, h1, h2⟩ := c.least y hy
    exact ⟨x, pm.mem_iff.mpr h1, h2⟩
theorem dkeys_cnt (f : List Tel) : dkeys (cntD f) = f.map placeD := by
  unfold dkeys cntD
  rw [List.map_map]
  rfl
theorem keyed_cnt (f : List Tel) : keyed (cntD f) = true := by cases f <;> rfl
theorem canSort_cnt (f : List Tel) : canSort (dkeys (cntD f)) = true := by
  rw [dkeys_cnt]
  have h1 : ∀ d ∈ f.map placeD, ∃ x, d = placeD x := fun d hd => by obtain ⟨x, _, rfl⟩ := List.mem_map.mp hd; exact ⟨x, rfl⟩
  unfold canSort
  rw [Bool.and_eq_true, Bool.and_eq_true]
  refine ⟨⟨List.all_eq_true.mpr fun d hd => List.all_eq_true.mpr fun e he => ?_, ?_⟩, List.all_eq_true.mpr fun d hd => ?_⟩
  · obtain ⟨x, rfl⟩ := h1 d hd
    obtain ⟨y, rfl⟩ := h1 e he
    exact alike_place x y
  · rw [Bool.or_eq_true]
    refine .inl (List.all_eq_true.mpr fun d hd => ?_)
    obtain ⟨x, rfl⟩ := h1 d hd
    rfl
  · obtain ⟨x, rfl⟩ := h1 d hd
    unfold placeD
    simp [PyData.depth, PyData.depthAll]
theorem sort_cnt (f : List Tel) : sortD (dkeys (cntD f)) = (cntS f).map placeD := by
  rw [dkeys_cnt]
  unfold sortD cntS
  refine (List.map_mergeSort fun a _ b _ => ?_).symm
  show (!lexB (pk b) (pk a)) = !PySem.W.dataLt (placeD b) (placeD a)
  rw [lt_place]
theorem sortedKD_d {kvs : List (PyData × PyData)} : sortedKD [.dict kvs] = if keyed kvs = true ∧ canSort (dkeys kvs) = true then some (.own (.list (sortD (dkeys kvs)))) else none := rfl
theorem ix_cnt (f : List Tel) (x : Tel) : ixD (.dict (cntD f)) (placeD x) = if tupKs (cntD f) = true then (findT (placeK x) (cntD f)).bind fun d => some (.fz d) else none := rfl
theorem ni_cnt (f : List Tel) (x : Tel) : notInD (placeD x) (.dict (cntD f)) = if tupKs (cntD f) = true then some (.fz (.bool (!(findT (placeK x) (cntD f)).isSome))) else none := rfl
theorem in_order_ok {T : List Tel} {P : List SV → RV → Prop} (hT : T.length ≤ 1000) (k : ∀ L, CountIs lexB pk tk T L → L.length ≤ T.length → P [.fz (.list (T.map Tel.D))] (.own (.list (L.map Tel.D)))) : WC c_in_order [.fz (.list (T.map Tel.D))] P := by
  unfold c_in_order b_in_order
  simp_arith
  refine wfor (fun i e => ∃ (f : List Tel) (s2 s3 : SV), s2.lock = false ∧ s3.lock = false ∧ e = [.fz (.list (T.map Tel.D)), .own (.dict (cntD f)), s2, s3] ∧ Cnt (T.take i) f ∧ f.length ≤ i) ⟨[], _, _, rfl, rfl, rfl, Cnt.nil, Nat.le_refl _⟩ (fun i d hd e hj => ?_) fun e hj => ?_
  · obtain ⟨f, s2, s3, l2, l3, rfl, hc, hf⟩ := hj
    rw [List.getElem?_map] at hd
    obtain ⟨x, hx, rfl⟩ := Option.map_eq_some_iff.mp hd
    have hi := (List.getElem?_eq_some_iff.mp hx).1
    have et : T.take (i + 1) = T.take i ++ [x] := by rw [List.take_add_one, hx]; rfl
    simp_arith [l2, l3]
    refine place_of_ok ?_
    simp_arith [l2, l3, ni_cnt, tupKs_cnt]
    rcases findT_cnt x f with ⟨h1, h2⟩ | ⟨z, h1, h2, h3⟩
    · simp_arith [l2, l3, h1, Option.isSome_none, keyT_place, tupKs_cnt]
      refine ⟨by rw [show (cntD f).length = f.length from List.length_map ..]; omega, f ++ [x], .fz x.D, .fz (placeD x), rfl, rfl, by rw [put_new h2], by rw [et]; exact hc.new h2, by rw [List.length_append, List.length_singleton]; omega⟩
    · simp_arith [l2, l3, h3, Option.isSome_some, ix_cnt, tupKs_cnt, ltA_tel (pk_inj.mp h2).2.1.symm]
      refine kIf_i (fun q => ?_) fun q => ?_
      · simp_arith [l2, l3, keyT_place, tupKs_cnt]
        refine ⟨by rw [show (cntD f).length = f.length from List.length_map ..]; omega, _, .fz x.D, .fz (placeD x), rfl, rfl, by rw [put_old h1 h2], by rw [et]; exact hc.less h1 h2 q, by rw [List.length_map]; omega⟩
      · simp_arith [l2, l3]
        exact ⟨f, .fz x.D, .fz (placeD x), rfl, rfl, rfl, by rw [et]; exact hc.keep h1 h2 q, by omega⟩
  · obtain ⟨f, s2, s3, l2, l3, rfl, hc, hf⟩ := hj
    rw [List.length_map, List.take_length] at hc
    rw [List.length_map] at hf
    simp_arith [l2, l3, sortedKD_d, keyed_cnt, canSort_cnt, sort_cnt]
    have hS := cntS_count hc
    have hl : (cntS f).length = f.length := (List.mergeSort_perm _ _).length_eq
    refine wlc_mapG (xs := cntS f) (g0 := placeD) Tel.D (by unfold lineN; omega) (fun x hx acc => ?_) ?_
    · have hxf : x ∈ f := (List.mergeSort_perm f _).mem_iff.mp hx
      rcases findT_cnt x f with ⟨_, h2⟩ | ⟨z, h1, h2, h3⟩
      · exact absurd rfl (h2 x hxf)
      · have : z = x := by
          have hz : z ∈ cntS f := (List.mergeSort_perm f _).mem_iff.mpr h1
          exact hS.one so_lex hz hx h2
        subst this
        simp_arith [l2, l3, ix_cnt, tupKs_cnt, h3]
    · simp_arith [l2, l3]
      exact k _ hS (by omega)

theorem Dedup.nil {γ β : Type} {lt : β → β → Bool} {pk ck : γ → β} : Dedup lt pk ck [] ([] : List γ) := ⟨.nil, fun x h => h, fun y h => (by cases h), fun l h => (by cases h)⟩
/-! the same with other hands: who goes ahead, the tellings due -/
def prtL : List (PyData × PyData) := [(.str (SX.S [108, 97, 110, 100]), .int 0), (.str (SX.S [100, 114, 111, 112]), .int 0), (.str (SX.S [102, 114, 101, 101]), .int 1), (.str (SX.S [115, 112, 111, 116]), .int 2)]
theorem prt_find (x : Tel) : findK (.inr (SX.S x.word)) prtL = some (.int x.part) := by
  cases x with
  | land t n o bs w => show findK (.inr (SX.S landL)) prtL = some (.int 0); rfl
  | drop t n => show findK (.inr (SX.S dropL)) prtL = some (.int 0); rfl
  | free t n => show findK (.inr (SX.S freeL)) prtL = some (.int 1); rfl
  | spot t n q => show findK (.inr (SX.S spotL)) prtL = some (.int 2); rfl
theorem kDictb_prt {P : MEnv → RV → Prop} {e : MEnv} (h : P e (.own (.dict prtL))) : kDictb P e [.str (SX.S [108, 97, 110, 100]), .int 0, .str (SX.S [100, 114, 111, 112]), .int 0, .str (SX.S [102, 114, 101, 101]), .int 1, .str (SX.S [115, 112, 111, 116]), .int 2] :=
  ⟨([.inr (SX.S [108, 97, 110, 100]), .inr (SX.S [100, 114, 111, 112]), .inr (SX.S [102, 114, 101, 101]), .inr (SX.S [115, 112, 111, 116])], [.int 0, .int 0, .int 1, .int 2]), rfl, ⟨by decide +kernel, by decide⟩, h⟩
theorem name_strOk {n : List Nat} (h : nameL n = true) : PyData.strOk (SX.S n) = true := by
  show (SX.S n).cps.all _ = true
  rw [← Array.all_toList, S_cps, List.all_eq_true]
  intro c hc
  have := (nameL_is h).2.2 c hc
  exact decide_eq_true (by omega)
theorem prt_flat : flatKs prtL = true := by rfl
theorem ix_prt (x : Tel) : ixD (.dict prtL) (.str (SX.S x.word)) = some (.fz (.int x.part)) := by
  rw [ixD_ds, if_pos (by rfl), prt_find x]
  rfl
theorem eqv_s (a b : List Nat) : PyData.eqv (.str (SX.S a)) (.str (SX.S b)) = decide (a = b) := by
  rw [PyData.eqv, Bool.eq_iff_iff]
  simp [S_eq]
theorem eqv_place (x y : Tel) : PyData.eqv (.tuple [.int x.time, .int x.part, .str (SX.S x.name)]) (.tuple [.int y.time, .int y.part, .str (SX.S y.name)]) = decide (x.time = y.time ∧ x.part = y.part ∧ x.name = y.name) := by
  simp only [PyData.eqv, PyData.eqvAll]
  rw [Bool.eq_iff_iff]
  simp [S_eq]
theorem ne_place {x y : Tel} (hx : nameL x.name = true) (hy : nameL y.name = true) : neD (.tuple [.int x.time, .int x.part, .str (SX.S x.name)]) (.tuple [.int y.time, .int y.part, .str (SX.S y.name)]) = some (.fz (.bool (!decide (x.time = y.time ∧ x.part = y.part ∧ x.name = y.name)))) := by
  rw [neD_sh (by simp [SeqAt.shaped, PyData.canLay0, PyData.canLayAll0, PyData.depth, PyData.depthAll, name_strOk hx]) (by simp [SeqAt.shaped, PyData.canLay0, PyData.canLayAll0, PyData.depth, PyData.depthAll, name_strOk hy]), eqv_place]
theorem cut3 (x : Tel) : cutG (.str (SX.S x.word) :: .int x.time :: .str (SX.S x.name) :: x.rest) (some 3) none = x.rest := by
  rw [cutG_from (by decide)]
  rfl
theorem goes_ahead_ok {x y : Tel} {P : List SV → RV → Prop} (hx : nameL x.name = true) (hy : nameL y.name = true) (k : P [.fz x.D, .fz y.D] (.fz (.bool (lexB (ck x) (ck y))))) : WC c_law_goes_ahead [.fz x.D, .fz y.D] P := by
  unfold c_law_goes_ahead b_law_goes_ahead
  have hp := ltA_place x y
  unfold placeD at hp
  rw [Tel.D_eq, Tel.D_eq] at k ⊢
  simp_arith
  refine kDictb_prt ?_
  simp_arith [prt_flat, prt_find, ne_place hx hy]
  refine kIf_i (fun q => ?_) fun q => ?_
  · have q' : pk x ≠ pk y := fun z => by
      rw [decide_eq_true (pk_inj.mp z)] at q
      cases q
    simp_arith [hp]
    rw [ck_diff q'] at k
    exact k
  · have q' : pk x = pk y := pk_inj.mpr (by simpa using q)
    rw [ck_same q'] at k
    simp_arith
    refine kIf_i (fun r => ?_) fun r => ?_
    · have r' : x.word ≠ y.word := by simpa [S_eq] using r
      rw [tk_other (pk_inj.mp q').2.1 r'] at k
      simp_arith [S_eq]
      exact k
    · have r' : x.word = y.word := by simpa [S_eq] using r
      rw [tk_word (pk_inj.mp q').1 (pk_inj.mp q').2.2 r'] at k
      simp_arith [cut3, ltA_rest r']
      exact k
theorem eqLD_m {L : List Tel} : eqLD (.list (L.map Tel.D)) (.list []) = some (.fz (.bool L.isEmpty)) := by cases L <;> first | rfl | exact eqLD_n
theorem ck_pk {x y : Tel} (h : lexB (ck x) (ck y) = false) : lexB (pk x) (pk y) = false := by
  by_cases e : pk x = pk y
  · rw [e]; exact so_lex.irr _
  · rw [ck_diff e] at h; exact h
theorem due_count {T R L : List Tel} (m : ∀ x, x ∈ R ↔ x ∈ T) (d : Dedup lexB pk ck R L) : CountIs lexB pk tk T L :=
  ⟨d.sorted, fun x hx => (m x).mp (d.mem x hx), fun y hy => by
    obtain ⟨x, h1, h2, h3⟩ := d.least y ((m y).mpr hy)
    exact ⟨x, h1, h2, by rw [ck_same h2.symm] at h3; exact h3⟩⟩
theorem tel_0 (x : Tel) : ixD x.D (.int 0) = some (.fz (.str (SX.S x.word))) := by rw [Tel.D_eq, ixD_t, atI_0]; rfl
theorem tel_1 (x : Tel) : ixD x.D (.int 1) = some (.fz (.int x.time)) := by rw [Tel.D_eq, ixD_t, atI_1]; rfl
theorem tel_2 (x : Tel) : ixD x.D (.int 2) = some (.fz (.str (SX.S x.name))) := by rw [Tel.D_eq, ixD_t, atI_2]; rfl
theorem ins_step {T R : List Tel} {x : Tel} {i j : Nat} (hx : T[i]? = some x) (hs : R.Pairwise (fun a b => lexB (ck b) (ck a) = false)) (hm : ∀ x, x ∈ R ↔ x ∈ T.take i) (hl : R.length = i) (hj : j ≤ R.length)
    (h1 : ∀ (i : Nat) (a : Tel), i < j → R[i]? = some a → lexB (ck a) (ck x) = true) (h2 : ∀ a, R[j]? = some a → lexB (ck a) (ck x) = false) :
    (R.take j ++ [x] ++ R.drop j).Pairwise (fun a b => lexB (ck b) (ck a) = false) ∧ (∀ y, y ∈ R.take j ++ [x] ++ R.drop j ↔ y ∈ T.take (i + 1)) ∧ (R.take j ++ [x] ++ R.drop j).length = i + 1 := by
  have et : T.take (i + 1) = T.take i ++ [x] := by rw [List.take_add_one, hx]; rfl
  refine ⟨ins_sorted so_lex hs hj h1 h2, fun y => ?_, ?_⟩
  · have hm := hm y
    have : y ∈ R ↔ y ∈ R.take j ∨ y ∈ R.drop j := by rw [← List.mem_append, List.take_append_drop]
    rw [et]
    simp only [List.mem_append, List.mem_singleton]
    grind
  · simp only [List.length_append, List.length_take, List.length_drop, List.length_singleton]
    omega
theorem due_ok {T : List Tel} {P : List SV → RV → Prop} (hT : T.length ≤ 1000) (hN : ∀ x ∈ T, nameL x.name = true) (k : ∀ L, CountIs lexB pk tk T L → L.length ≤ T.length → P [.fz (.list (T.map Tel.D))] (.own (.list (L.map Tel.D)))) : WC c_law_due [.own (.list (T.map Tel.D))] P := by
  unfold c_law_due b_law_due
  simp_arith
  refine kDictb_prt ?_
  simp_arith
  refine wfor (fun i e => ∃ (R : List Tel) (s3 s4 : SV), s3.lock = false ∧ s4.lock = false ∧
      e = [.rfz (.list (T.map Tel.D)), .own (.dict prtL), .own (.list (R.map Tel.D)), s3, s4, .unb, .unb] ∧ R.Pairwise (fun a b => lexB (ck b) (ck a) = false) ∧ (∀ x, x ∈ R ↔ x ∈ T.take i) ∧ R.length = i)
    ⟨[], _, _, rfl, rfl, rfl, .nil, fun x => by simp, rfl⟩ (fun i d hd e hj => ?_) fun e hj => ?_
  · obtain ⟨R, s3, s4, l3, l4, rfl, hs, hm, hl⟩ := hj
    rw [List.getElem?_map] at hd
    obtain ⟨x, hx, rfl⟩ := Option.map_eq_some_iff.mp hd
    have hi := (List.getElem?_eq_some_iff.mp hx).1
    simp_arith [l3, l4]
    refine wwhile (fun m e => ∃ j : Nat, j ≤ R.length ∧ (∀ (i : Nat) (a : Tel), i < j → R[i]? = some a → lexB (ck a) (ck x) = true) ∧ m + j = R.length + 1 ∧
      e = [.rfz (.list (T.map Tel.D)), .own (.dict prtL), .own (.list (R.map Tel.D)), .fz x.D, .fz (.int j), .unb, .unb]) (R.length + 1) ⟨0, Nat.zero_le _, fun i a h => absurd h (Nat.not_lt_zero _), rfl, rfl⟩ (by unfold wN; omega) fun m e he => ?_
    obtain ⟨j, j1, j2, jm, rfl⟩ := he
    have lR : (R.map Tel.D).length = R.length := List.length_map ..
    simp_arith [lR]
    refine kAnd_i (fun hc => ?_) fun hc => ?_
    · have hc : (j : Int) < R.length := of_decide_eq_true hc
      simp_arith
      obtain ⟨a, ha⟩ : ∃ a, R[j]? = some a := ⟨_, List.getElem?_eq_getElem (by omega)⟩
      have hat : atI (R.map Tel.D) (j : Int) = some a.D := by
        exact L3.atI_nat (by rw [List.getElem?_map, ha]; rfl)
      simp_arith [hat]
      refine goes_ahead_ok (hN a (List.mem_of_mem_take ((hm a).mp (List.mem_of_getElem? ha)))) (hN x (List.mem_of_getElem? hx)) ?_
      simp_arith
      refine kWh_i (fun q => ?_) fun q => ?_
      · simp_arith
        refine ⟨m - 1, by omega, j + 1, by omega, fun i b h1 h2 => ?_, by omega, rfl⟩
        by_cases e : i = j
        · rw [e, ha] at h2; cases h2; exact q
        · exact j2 i b (by omega) h2
      · simp_arith
        refine ⟨⟨by omega, by omega, by omega⟩, R.take j ++ [x] ++ R.drop j, .fz x.D, .fz (.int j), rfl, rfl, ?_, ins_step hx hs hm hl j1 j2 fun b hb => by rw [ha] at hb; cases hb; exact q⟩
        simp [List.map_take, List.map_drop]
    · have hc : ¬ (j : Int) < R.length := of_decide_eq_false hc
      simp_arith
      refine ⟨⟨by omega, by omega, by omega⟩, R.take j ++ [x] ++ R.drop j, .fz x.D, .fz (.int j), rfl, rfl, ?_, ins_step hx hs hm hl j1 j2 fun b hb => by rw [List.getElem?_eq_none (by omega)] at hb; cases hb⟩
      simp [List.map_take, List.map_drop]
  · obtain ⟨R, s3, s4, l3, l4, rfl, hs, hm, hl⟩ := hj
    rw [List.length_map, List.take_length] at hm
    rw [List.length_map] at hl
    simp_arith [l3, l4]
    refine wfor (fun i e => ∃ (L : List Tel) (s3 s6 : SV), s3.lock = false ∧ s6.lock = false ∧
      e = [.rfz (.list (T.map Tel.D)), .own (.dict prtL), .fz (.list (R.map Tel.D)), s3, s4, .own (.list (L.map Tel.D)), s6] ∧ Dedup lexB pk ck (R.take i) L ∧ L.length ≤ i)
      ⟨[], s3, _, l3, rfl, rfl, Dedup.nil, Nat.le_refl _⟩ (fun i d hd e hj => ?_) fun e hj => ?_
    · obtain ⟨L, s3, s6, l3, l6, rfl, hD, hL⟩ := hj
      rw [List.getElem?_map] at hd
      obtain ⟨x, hx, rfl⟩ := Option.map_eq_some_iff.mp hd
      have hi := (List.getElem?_eq_some_iff.mp hx).1
      have et : R.take (i + 1) = R.take i ++ [x] := by rw [List.take_add_one, hx]; rfl
      have hb : ∀ y ∈ R.take i, lexB (ck x) (ck y) = false := fun y hy => by
        have := (List.pairwise_append.mp (by rw [← et]; exact hs.sublist (List.take_sublist ..) : (R.take i ++ [x]).Pairwise fun a b => lexB (ck b) (ck a) = false)).2.2 y hy x (by simp)
        exact this
      have lL : (L.map Tel.D).length = L.length := List.length_map ..
      simp_arith [l3, l6, tel_0, tel_1, tel_2, prt_flat, prt_find, eqLD_m]
      cases eL : L.getLast? with
      | none =>
        rw [List.getLast?_eq_none_iff] at eL
        subst eL
        simp_arith [List.isEmpty_nil]
        refine ⟨[x], .fz x.D, .fz (placeD x), rfl, rfl, rfl, ?_, by simp⟩
        rw [et]
        exact Dedup.add so_lex (L := []) hD (fun y hy => ck_pk (hb y hy)) fun l h => by cases h
      | some l =>
        obtain ⟨L0, rfl⟩ : ∃ L0, L = L0 ++ [l] := List.getLast?_eq_some_iff.mp eL
        have hlm : l ∈ R := List.mem_of_mem_take (hD.mem l (by simp))
        have hN' : ∀ y ∈ R, nameL y.name = true := fun y hy => hN y ((hm y).mp hy)
        have ei : (L0 ++ [l]).isEmpty = false := by simp
        have em : (L0 ++ [l]).map Tel.D = L0.map Tel.D ++ [l.D] := by simp
        simp_arith [ei, em, atI_last, tel_0, tel_1, tel_2, prt_flat, prt_find, ne_place (hN' l hlm) (hN' x (List.mem_of_getElem? hx))]
        refine kIf_i (fun q => ?_) fun q => ?_
        · have q' : pk l ≠ pk x := fun z => by
            rw [decide_eq_true (pk_inj.mp z)] at q
            cases q
          simp_arith [em]
          refine ⟨by simp at hL; simp; omega, L0 ++ [l] ++ [x], .fz x.D, .fz (placeD x), rfl, rfl, by simp [placeD], ?_, by simp at hL; simp; omega⟩
          rw [et]
          exact Dedup.add so_lex hD (fun y hy => ck_pk (hb y hy)) fun l' h => by rw [eL] at h; cases h; exact q'
        · have q' : pk l = pk x := pk_inj.mpr (by simpa using q)
          simp_arith
          refine ⟨L0 ++ [l], .fz x.D, .fz (placeD x), rfl, rfl, by simp [placeD], ?_, by simp at hL; simp; omega⟩
          rw [et]
          exact Dedup.keep hD eL q' hb
    · obtain ⟨L, s3, s6, l3, l6, rfl, hD, hL⟩ := hj
      rw [List.length_map, List.take_length] at hD
      simp_arith
      exact k L (due_count hm hD) (by rw [List.length_map] at hL; omega)

/-! sizes of what is put together -/
theorem fineAll_of : ∀ {xs : List PyData}, (∀ x ∈ xs, fineD x) → fineAll xs
  | [], _ => by simp [fineAll]
  | x :: xs, h => by
    rw [fineAll]
    exact ⟨h x List.mem_cons_self, fineAll_of fun y hy => h y (List.mem_cons_of_mem _ hy)⟩
theorem noDictAll_of : ∀ {xs : List PyData}, (∀ x ∈ xs, x.hasDict = false) → PyData.hasDictAll xs = false
  | [], _ => by simp [PyData.hasDictAll]
  | x :: xs, h => by
    rw [PyData.hasDictAll, h x List.mem_cons_self, noDictAll_of fun y hy => h y (List.mem_cons_of_mem _ hy)]
    rfl
theorem listFreeAll_of : ∀ {xs : List PyData}, (∀ x ∈ xs, listFree x = true) → listFreeAll xs = true
  | [], _ => by simp [listFreeAll]
  | x :: xs, h => by
    rw [listFreeAll, h x List.mem_cons_self, listFreeAll_of fun y hy => h y (List.mem_cons_of_mem _ hy)]
    rfl
theorem depthAll_of {n : Nat} : ∀ {xs : List PyData}, (∀ x ∈ xs, x.depth ≤ n) → PyData.depthAll xs ≤ n
  | [], _ => by simp [PyData.depthAll]
  | x :: xs, h => by
    rw [PyData.depthAll]
    exact Nat.max_le.mpr ⟨h x List.mem_cons_self, depthAll_of fun y hy => h y (List.mem_cons_of_mem _ hy)⟩
theorem wtAll_of {n : Nat} : ∀ {xs : List PyData}, (∀ x ∈ xs, wt x ≤ n) → wtAll xs ≤ xs.length * (n + 2)
  | [], _ => by simp [wtAll]
  | x :: xs, h => by
    have h1 := h x List.mem_cons_self
    have h2 := wtAll_of fun y hy => h y (List.mem_cons_of_mem _ hy)
    rw [wtAll, List.length_cons, Nat.succ_mul]
    omega
/-- not large -/
structure Mild (n m : Nat) (d : PyData) : Prop where
  fine : fineD d
  deep : d.depth ≤ n
  wide : wt d ≤ m
theorem Mild.up {n m n' m' : Nat} {d : PyData} (h : Mild n m d) (h1 : n ≤ n') (h2 : m ≤ m') : Mild n' m' d := ⟨h.fine, Nat.le_trans h.deep h1, Nat.le_trans h.wide h2⟩
theorem Mild.tup {n m : Nat} {xs : List PyData} (h : ∀ x ∈ xs, Mild n m x) : Mild (n + 1) (xs.length * (m + 2) + 3) (.tuple xs) :=
  ⟨by rw [fineD]; exact fineAll_of fun x hx => (h x hx).fine, by rw [PyData.depth]; have := depthAll_of fun x hx => (h x hx).deep; omega, by rw [wt]; have := wtAll_of fun x hx => (h x hx).wide; omega⟩
theorem Mild.lst {n m : Nat} {xs : List PyData} (h : ∀ x ∈ xs, Mild n m x) : Mild (n + 1) (xs.length * (m + 2) + 3) (.list xs) :=
  ⟨by rw [fineD]; exact fineAll_of fun x hx => (h x hx).fine, by rw [PyData.depth]; have := depthAll_of fun x hx => (h x hx).deep; omega, by rw [wt]; have := wtAll_of fun x hx => (h x hx).wide; omega⟩
theorem noDict_tup {xs : List PyData} (h : ∀ x ∈ xs, x.hasDict = false) : (PyData.tuple xs).hasDict = false := by rw [PyData.hasDict]; exact noDictAll_of h
theorem noDict_lst {xs : List PyData} (h : ∀ x ∈ xs, x.hasDict = false) : (PyData.list xs).hasDict = false := by rw [PyData.hasDict]; exact noDictAll_of h
theorem listFree_tup {xs : List PyData} (h : ∀ x ∈ xs, listFree x = true) : listFree (.tuple xs) = true := by rw [listFree]; exact listFreeAll_of h

/-! near tellings, tellings drawn -/
theorem farN_up {i j : Nat} (h : i ≤ j) {x : Int} (q : farN i x) : farN j x := by unfold farN at *; omega
theorem TelB.up {i j : Nat} (h : i ≤ j) {x : Tel} (q : TelB i x) : TelB j x := by
  cases x with
  | land t n o bs w =>
    obtain ⟨a, b, c, d, e, f, g⟩ := q
    exact ⟨a, b, c, d, e, by omega, farN_up h g⟩
  | drop t n => exact q
  | free t n => exact q
  | spot t n q' =>
    obtain ⟨a, b, c, d⟩ := q
    exact ⟨a, b, farN_up h c, farN_up h d⟩
theorem TelB.nm {k : Nat} {x : Tel} (q : TelB k x) : nameL x.name = true := by
  cases x with
  | land t n o bs w => exact q.2.1
  | drop t n => exact q.2
  | free t n => exact q.2
  | spot t n q' => exact q.2.1
theorem drawn_bent {W : Wd} (hW : W.ok) {ss : List Bx} (h : Drawn W ss) : (∀ b ∈ W.sh ss, boxN b) ∧ W.sh ss ≠ [] ∧ (W.sh ss).length ≤ 6 := by
  refine ⟨fun b hb => ?_, fun z => ?_, ?_⟩
  · obtain ⟨q1, q2, q3, q4, q5, q6⟩ := h.near hW b hb
    exact ⟨by unfold farN; omega, by unfold farN; omega, by unfold farN; omega, by unfold farN; omega⟩
  · have := h.l0
    unfold Wd.sh at z
    rw [List.map_eq_nil_iff] at z
    rw [z] at this
    simp at this
  · unfold Wd.sh
    rw [List.length_map]
    exact h.l1
theorem tfd : decide (SX.S [102, 114, 101, 101] = SX.S [100, 114, 111, 112]) = false := by decide +kernel
theorem tdl : decide (SX.S [100, 114, 111, 112] = SX.S [108, 97, 110, 100]) = false := by decide +kernel
theorem tfl : decide (SX.S [102, 114, 101, 101] = SX.S [108, 97, 110, 100]) = false := by decide +kernel
theorem tsl : decide (SX.S [115, 112, 111, 116] = SX.S [108, 97, 110, 100]) = false := by decide +kernel
theorem tsd : decide (SX.S [115, 112, 111, 116] = SX.S [100, 114, 111, 112]) = false := by decide +kernel
theorem tsf : decide (SX.S [115, 112, 111, 116] = SX.S [102, 114, 101, 101]) = false := by decide +kernel
theorem tld : decide (SX.S [108, 97, 110, 100] = SX.S [100, 114, 111, 112]) = false := by decide +kernel
theorem tlf : decide (SX.S [108, 97, 110, 100] = SX.S [102, 114, 101, 101]) = false := by decide +kernel
theorem tls : decide (SX.S [108, 97, 110, 100] = SX.S [115, 112, 111, 116]) = false := by decide +kernel
theorem cut6_2 {α : Type} (a b c d e f : α) : cutG [a, b, c, d, e, f] none (some 2) = [a, b] := rfl
theorem cut6_3 {α : Type} (a b c d e f : α) : cutG [a, b, c, d, e, f] none (some 3) = [a, b, c] := rfl
theorem cut6_4 {α : Type} (a b c d e f : α) : cutG [a, b, c, d, e, f] none (some 4) = [a, b, c, d] := rfl
theorem cut6_5 {α : Type} (a b c d e f : α) : cutG [a, b, c, d, e, f] none (some 5) = [a, b, c, d, e] := rfl
theorem cut6_f3 {α : Type} (a b c d e f : α) : cutG [a, b, c, d, e, f] (some 3) none = [d, e, f] := rfl
theorem cut6_f5 {α : Type} (a b c d e f : α) : cutG [a, b, c, d, e, f] (some 5) none = [f] := rfl
theorem cut6_13 {α : Type} (a b c d e f : α) : cutG [a, b, c, d, e, f] (some 1) (some 3) = [b, c] := rfl
theorem cut4_3 {α : Type} (a b c d : α) : cutG [a, b, c, d] none (some 3) = [a, b, c] := rfl
theorem cutG_last {α : Type} {as : List α} {x : α} : cutG (as ++ [x]) (some (-1)) none = [x] := by
  unfold cutG
  have e : HT.sIx (as ++ [x]).length 0 (some (-1)) = as.length := by
    show (if (-1 : Int) < 0 then ((-1 : Int) + ((as ++ [x]).length : Int)).toNat else min (-1 : Int).toNat (as ++ [x]).length) = _
    rw [if_pos (by decide), List.length_append, List.length_singleton]
    omega
  rw [e, HT.sIx_none, List.drop_left]
  exact List.take_of_length_le (by rw [List.length_append, List.length_singleton]; omega)
theorem near_ok {ns : List Int} {p c : Int} {W : Wd} {kk : Nat} {x : Tel} {P : List SV → RV → Prop} (hW : W.ok) (hkk : kk ≤ 1000) (hx : TelB kk x) (k : ∀ (p' c' : Int) (y : Tel), TelB (kk + 1) y → P [.own (penD ns p' c'), .own W.D, .fz x.D] (.fz y.D)) :
    WC c_law_near [.own (penD ns p c), .own W.D, .fz x.D] P := by
  have ln : ∀ {n : List Nat}, n ∈ W.ls → nameL n = true := fun {n} h => hW.ln n h
  have ll : ∀ {o : List Nat}, (o = [] ∨ o ∈ W.ls) → (o = [] ∨ nameL o = true) := fun {o} h => h.imp id fun h => hW.ln _ h
  cases x with
  | drop t n =>
    have k : ∀ (p' c' : Int) (y : Tel), TelB (kk + 1) y → P [.own (penD ns p' c'), .own W.D, .fz (.tuple [.str (SX.S [100, 114, 111, 112]), .int t, .str (SX.S n)])] (.fz y.D) := k
    show WC c_law_near [.own (penD ns p c), .own W.D, .fz (.tuple [.str (SX.S [100, 114, 111, 112]), .int t, .str (SX.S n)])] P
    unfold c_law_near b_law_near
    simp_arith
    refine land_ok hW fun p1 c1 n1 o1 ss1 w1 hn1 ho1 hs1 a1 b1 => ?_
    simp only [landT]
    simp_arith [cut6_2]
    refine land_ok hW fun p2 c2 n2 o2 ss2 w2 hn2 ho2 hs2 a2 b2 => ?_
    simp only [landT]
    simp_arith [cut6_2, cut6_f3]
    obtain ⟨d1, d2, d3⟩ := drawn_bent hW hs2
    exact k p2 c2 (.land t n o2 (W.sh ss2) w2) ⟨hx.1, hx.2, ll ho2, d1, d2, by omega, by unfold farN; omega⟩
  | free t n =>
    have k : ∀ (p' c' : Int) (y : Tel), TelB (kk + 1) y → P [.own (penD ns p' c'), .own W.D, .fz (.tuple [.str (SX.S [102, 114, 101, 101]), .int t, .str (SX.S n)])] (.fz y.D) := k
    show WC c_law_near [.own (penD ns p c), .own W.D, .fz (.tuple [.str (SX.S [102, 114, 101, 101]), .int t, .str (SX.S n)])] P
    unfold c_law_near b_law_near
    simp_arith [tfd]
    exact k p c (.free t n) hx
  | spot t n q =>
    have k : ∀ (p' c' : Int) (y : Tel), TelB (kk + 1) y → P [.own (penD ns p' c'), .own W.D, .fz (.tuple [.str (SX.S [115, 112, 111, 116]), .int t, .str (SX.S n), .tuple [.int q.1, .int q.2]])] (.fz y.D) := k
    show WC c_law_near [.own (penD ns p c), .own W.D, .fz (.tuple [.str (SX.S [115, 112, 111, 116]), .int t, .str (SX.S n), .tuple [.int q.1, .int q.2]])] P
    unfold c_law_near b_law_near
    simp_arith [cut4_3, tsd, tsf]
    refine take_ok (by decide) (by decide) fun r1 p1 c1 a1 b1 => ?_
    simp_arith
    refine wp_at a1 b1 fun d hd => ?_
    have hm := List.mem_of_getElem? hd
    simp only [List.mem_cons, List.not_mem_nil, or_false] at hm
    obtain ⟨m, rfl, m0, m1⟩ : ∃ m : Int, d = .int m ∧ -1 ≤ m ∧ m ≤ 1 := by
      rcases hm with rfl | rfl <;> exact ⟨_, rfl, by omega, by omega⟩
    clear hd hm
    simp_arith
    obtain ⟨q1, q2, q3, q4⟩ := hx
    exact k p1 c1 (.spot t n (q.1, q.2 + m)) ⟨q1, q2, farN_up (by omega) q3, by unfold farN at *; dsimp only; omega⟩
  | land t n o bs w =>
    have k : ∀ (p' c' : Int) (y : Tel), TelB (kk + 1) y → P [.own (penD ns p' c'), .own W.D, .fz (.tuple [.str (SX.S [108, 97, 110, 100]), .int t, .str (SX.S n), .str (SX.S o), .tuple (bs.map boxD), .int w])] (.fz y.D) := k
    show WC c_law_near [.own (penD ns p c), .own W.D, .fz (.tuple [.str (SX.S [108, 97, 110, 100]), .int t, .str (SX.S n), .str (SX.S o), .tuple (bs.map boxD), .int w])] P
    unfold c_law_near b_law_near
    obtain ⟨q1, q2, q3, q4, q5, q6, q7⟩ := hx
    simp_arith [tld, tlf, tls]
    refine take_ok (by decide) (by decide) fun r1 p1 c1 a1 b1 => ?_
    simp_arith
    refine kIf_i (fun hc => ?_) fun hc => ?_
    · simp_arith [cut6_13]
      exact k p1 c1 (.drop t n) ⟨q1, q2⟩
    · simp_arith
      refine kIf_i (fun hc => ?_) fun hc => ?_
      · simp_arith [cut6_5, atI_5]
        exact k p1 c1 (.land t n o bs (w + 1)) ⟨q1, q2, q3, q4, q5, by omega, by unfold farN at *; omega⟩
      · simp_arith
        refine kIf_i (fun hc => ?_) fun hc => ?_
        · simp_arith [cut6_4, cut6_f5]
          rcases List.eq_nil_or_concat bs with rfl | ⟨as, b, rfl⟩
          · exact absurd rfl q5
          · rw [List.concat_eq_append] at *
            have em : (as ++ [b]).map boxD = as.map boxD ++ [boxD b] := by simp
            rw [em, cutG_last]
            have := k p1 c1 (.land t n o (as ++ [b] ++ [b]) w) ⟨q1, q2, q3, fun b' hb => by
              rcases List.mem_append.mp hb with hb | hb
              · exact q4 b' hb
              · rw [List.mem_singleton.mp hb]; exact q4 b (by simp), by simp, by simp at q6 ⊢; omega, farN_up (by omega) q7⟩
            have e2 : (Tel.land t n o (as ++ [b] ++ [b]) w).D = .tuple [.str (SX.S [108, 97, 110, 100]), .int t, .str (SX.S n), .str (SX.S o), .tuple (as.map boxD ++ [boxD b] ++ [boxD b]), .int w] := by
              show landT t n o (as ++ [b] ++ [b]) w = _
              unfold landT
              rw [List.map_append, List.map_append]
              rfl
            rw [em, e2] at this
            simp only [List.length_append, List.length_map, List.length_singleton] at q6 ⊢
            exact ⟨by omega, this⟩
        · simp_arith
          refine land_ok hW fun p2 c2 n2 o2 ss2 w2 hn2 ho2 hs2 a2 b2 => ?_
          simp only [landT]
          simp_arith [cut6_3, cut6_f3]
          obtain ⟨d1, d2, d3⟩ := drawn_bent hW hs2
          exact k p2 c2 (.land t n o2 (W.sh ss2) w2) ⟨q1, q2, ll ho2, d1, d2, by omega, by unfold farN; omega⟩
/-- of few boxes -/
def few : Tel → Bool
  | .land _ _ _ bs _ => decide (bs.length < 7)
  | _ => true
theorem drawn_ok {ns : List Int} {p c : Int} {W : Wd} {P : List SV → RV → Prop} (hW : W.ok) (k : ∀ (p' c' : Int) (T : List Tel), T.length ≤ 300 → (∀ x ∈ T, TelB 300 x ∧ few x = true) → P [.own (penD ns p' c'), .own W.D] (.own (.list (T.map Tel.D)))) :
    WC c_law_drawn [.own (penD ns p c), .own W.D] P := by
  unfold c_law_drawn b_law_drawn
  simp_arith
  refine take_ok (by decide) (by decide) fun r1 p1 c1 a1 b1 => ?_
  simp_arith
  refine take_ok (by decide) (by decide) fun r2 p2 c2 a2 b2 => ?_
  simp_arith
  have key : ∀ K : Out → Prop, (∀ m : Int, 0 ≤ m → m ≤ 300 → K (.nx [.ref (penD ns p2 c2), .ref W.D, .fz (.int m), .unb, .unb, .unb, .unb])) → kIf (sSet 2 (eLit (.int 300))) sSkip K [.ref (penD ns p2 c2), .ref W.D, .fz (.int r1), .unb, .unb, .unb, .unb] (decide (r2 = 0)) := fun K h => by
    refine kIf_i (fun hc => ?_) fun hc => ?_
    · simp_arith
      exact h 300 (by decide) (by decide)
    · simp_arith
      exact h r1 (by omega) (by omega)
  refine key _ fun m m0 m1 => ?_
  simp_arith
  refine ⟨by omega, ?_⟩
  refine wfor (fun i e => ∃ (p3 c3 : Int) (R : List Tel) (s4 s5 : SV), s4.lock = false ∧ s5.lock = false ∧ e = [.ref (penD ns p3 c3), .ref W.D, .fz (.int m), .own (.list (R.map Tel.D)), s4, s5, .unb] ∧ R.length = i ∧ ∀ x ∈ R, TelB i x)
    ⟨p2, c2, [], _, _, rfl, rfl, rfl, rfl, fun x h => by cases h⟩ (fun i d hd e hj => ?_) fun e hj => ?_
  · obtain ⟨p3, c3, R, s4, s5, l4, l5, rfl, hl, hR⟩ := hj
    obtain ⟨rfl, hi⟩ := range_at hd
    have hlen : (rangeD 0 m).length = m.toNat := by rw [range_len]; simp
    have i300 : i < 300 := by omega
    simp_arith [l4, l5]
    refine take_ok (by decide) (by decide) fun r3 p4 c4 a3 b3 => ?_
    simp_arith [l4, l5]
    refine tel_ok hW fun p5 c5 x hx => ?_
    have hb : TelB i x := (hx.bent hW).up (Nat.zero_le _)
    have lR : (R.map Tel.D).length = i := by rw [List.length_map]; exact hl
    have em : R.map Tel.D ++ [x.D] = (R ++ [x]).map Tel.D := by simp
    simp_arith [lR, em]
    refine ⟨by omega, ?_⟩
    have hR1 : ∀ y ∈ R ++ [x], TelB i y := fun y hy => by
      rcases List.mem_append.mp hy with hy | hy
      · exact hR y hy
      · rw [List.mem_singleton.mp hy]; exact hb
    have lR1 : (R ++ [x]).length = i + 1 := by rw [List.length_append, hl]; rfl
    have fetch : ∀ {r : Int} {Q : PyData → Prop}, 0 ≤ r → r < (i : Int) → (∀ y ∈ R ++ [x], Q y.D) → Wp (atI ((R ++ [x]).map Tel.D) r) Q := fun {r Q} h0 h1 hq => by
      refine wp_at h0 (by rw [List.length_map, lR1]; omega) fun d hd => ?_
      rw [List.getElem?_map] at hd
      obtain ⟨y, hy, rfl⟩ := Option.map_eq_some_iff.mp hd
      exact hq y (List.mem_of_getElem? hy)
    have last : ixN ((R ++ [x]).map Tel.D).length (i : Int) = some i := by
      rw [List.length_map, lR1]
      exact L3.ixN_nat (by omega)
    have put : ∀ y : Tel, ((R ++ [x]).map Tel.D).set i y.D = (R ++ [y]).map Tel.D := fun y => by
      rw [List.map_append, List.map_append, List.set_append_right _ _ (by rw [List.length_map]; omega), List.length_map, hl, Nat.sub_self]
      rfl
    have done : ∀ y, TelB (i + 1) y → (∀ z ∈ R ++ [y], TelB (i + 1) z) ∧ (R ++ [y]).length = i + 1 := fun y hy => ⟨fun z hz => by
      rcases List.mem_append.mp hz with hz | hz
      · exact (hR z hz).up (by omega)
      · rw [List.mem_singleton.mp hz]; exact hy, by rw [List.length_append, hl]; rfl⟩
    refine kAnd_j (decide ((0 : Int) < i)) (fun _ => ?_) ?_
    · simp_arith
    refine kIf_i (fun hc => ?_) fun hc => ?_
    · rw [Bool.and_eq_true, decide_eq_true_eq, decide_eq_true_eq] at hc
      simp_arith
      refine take_ok hc.2 (by omega) fun r4 p6 c6 a4 b4 => ?_
      simp_arith
      refine fetch a4 b4 fun y hy => ?_
      simp_arith [last]
      have h1 : decide (r3 = 1) = false := decide_eq_false (by omega)
      simp_arith [h1]
      obtain ⟨d1, d2⟩ := done y ((hR1 y hy).up (by omega))
      exact ⟨p6, c6, R ++ [y], _, _, rfl, rfl, by rw [put], d2, d1⟩
    · clear hc
      simp_arith
      refine kAnd_j (decide ((0 : Int) < i)) (fun _ => ?_) ?_
      · simp_arith
      refine kIf_i (fun hc => ?_) fun hc => ?_
      · rw [Bool.and_eq_true, decide_eq_true_eq, decide_eq_true_eq] at hc
        simp_arith
        refine take_ok hc.2 (by omega) fun r4 p6 c6 a4 b4 => ?_
        simp_arith
        refine fetch a4 b4 fun y hy => ?_
        simp_arith
        refine near_ok hW (by omega) (hR1 y hy) fun p7 c7 z hz => ?_
        simp_arith [last]
        obtain ⟨d1, d2⟩ := done z hz
        exact ⟨p7, c7, R ++ [z], _, _, rfl, rfl, by rw [put], d2, d1⟩
      · simp_arith
        obtain ⟨d1, d2⟩ := done x (hb.up (by omega))
        exact ⟨p5, c5, R ++ [x], _, _, rfl, rfl, rfl, d2, d1⟩
  · obtain ⟨p3, c3, R, s4, s5, l4, l5, rfl, hl, hR⟩ := hj
    rw [range_len] at hl hR
    simp_arith [l4, l5]
    refine wlc_fm (xs := R) (g0 := Tel.D) (fun x => if few x = true then some x.D else none) (by unfold lineN; omega) (fun x hx acc => ?_) ?_
    · cases x with
      | land t n o bs w =>
        have lb : (bs.map boxD).length = bs.length := List.length_map ..
        show WG (gSlot 6) (landT t n o bs w) _ _
        simp only [landT, landL]
        simp_arith [lb]
        by_cases h : bs.length < 7
        · have e1 : decide ((bs.length : Int) < 7) = true := decide_eq_true (by omega)
          have e2 : few (.land t n o bs w) = true := decide_eq_true h
          rw [e1]
          simp_arith [e2]
          rfl
        · have e1 : decide ((bs.length : Int) < 7) = false := decide_eq_false (by omega)
          have e2 : few (.land t n o bs w) = false := decide_eq_false h
          rw [e1]
          simp_arith [e2, Option.toList_none, List.append_nil]
      | drop t n =>
        show WG (gSlot 6) (dropT t n) _ _
        simp only [dropT, dropL]
        simp_arith [tdl]
        rfl
      | free t n =>
        show WG (gSlot 6) (freeT t n) _ _
        simp only [freeT, freeL]
        simp_arith [tfl]
        rfl
      | spot t n q =>
        show WG (gSlot 6) (spotT t n q) _ _
        simp only [spotT, spotL]
        simp_arith [tsl]
        rfl
    · simp_arith
      have := k p3 c3 (R.filter few) (Nat.le_trans (List.length_filter_le ..) (by omega)) fun x hx => ⟨(hR x (List.mem_filter.mp hx).1).up (by omega), (List.mem_filter.mp hx).2⟩
      have e : (R.filterMap fun x => if few x = true then some x.D else none) = (R.filter few).map Tel.D := by
        clear hR hl this
        induction R with
        | nil => rfl
        | cons x R ih =>
          cases h : few x
          · rw [List.filterMap_cons, h, List.filter_cons, h]
            exact ih
          · rw [List.filterMap_cons, h, List.filter_cons, h]
            simp only [if_true, List.map_cons, ih]
      rw [e]
      exact this

/-! turned, the same, the law -/
theorem turned_ok {ns : List Int} {p c : Int} {T : List Tel} {P : List SV → RV → Prop} (hT : T.length ≤ 1000) (k : ∀ (p' c' : Int) (R : List Tel), R.length = T.length → (∀ x, x ∈ R ↔ x ∈ T) → P [.own (penD ns p' c'), .fz (.list (T.map Tel.D))] (.own (.list (R.map Tel.D)))) :
    WC c_law_turned [.own (penD ns p c), .own (.list (T.map Tel.D))] P := by
  unfold c_law_turned b_law_turned
  simp_arith
  refine wfor (fun i e => ∃ (p' c' : Int) (R : List Tel) (s3 : SV), s3.lock = false ∧ e = [.ref (penD ns p' c'), .rfz (.list (T.map Tel.D)), .own (.list (R.map Tel.D)), s3] ∧ R.length = i ∧ ∀ x, x ∈ R ↔ x ∈ T.take i)
    ⟨p, c, [], _, rfl, rfl, rfl, fun x => by simp⟩ (fun i d hd e hj => ?_) fun e hj => ?_
  · obtain ⟨p', c', R, s3, l3, rfl, hl, hm⟩ := hj
    rw [List.getElem?_map] at hd
    obtain ⟨x, hx, rfl⟩ := Option.map_eq_some_iff.mp hd
    have hi := (List.getElem?_eq_some_iff.mp hx).1
    have et : T.take (i + 1) = T.take i ++ [x] := by rw [List.take_add_one, hx]; rfl
    have lR : (R.map Tel.D).length = i := by rw [List.length_map]; exact hl
    simp_arith [l3, lR]
    refine take_ok (by omega) (by omega) fun r p2 c2 a2 b2 => ?_
    simp_arith [lR]
    refine ⟨⟨by omega, by omega, by omega⟩, p2, c2, R.take r.toNat ++ [x] ++ R.drop r.toNat, .fz x.D, rfl, by simp [List.map_take, List.map_drop], ?_, fun y => ?_⟩
    · simp only [List.length_append, List.length_take, List.length_drop, List.length_singleton]
      omega
    · have : y ∈ R ↔ y ∈ R.take r.toNat ∨ y ∈ R.drop r.toNat := by rw [← List.mem_append, List.take_append_drop]
      have hm := hm y
      rw [et]
      simp only [List.mem_append, List.mem_singleton]
      grind
  · obtain ⟨p', c', R, s3, l3, rfl, hl, hm⟩ := hj
    rw [List.length_map] at hl hm
    rw [List.take_length] at hm
    simp_arith [l3]
    exact k p' c' R hl hm
structure FineT (x : Tel) : Prop where
  mild : Mild 4 4000 x.D
  nd : x.D.hasDict = false
  lay : x.D.canLay0 = true
theorem box_fine {b : Bx} (h : boxN b) : Mild 2 425 (boxD b) ∧ (boxD b).hasDict = false ∧ (boxD b).canLay0 = true := by
  obtain ⟨h1, h2, h3, h4⟩ := h
  unfold farN at *
  have f : ∀ i : Int, i.natAbs ≤ 10000000000000 + 0 → i.natAbs < 10 ^ 100 := fun i h => by
    have : (10000000000000 : Nat) < 10 ^ 100 := by decide +kernel
    omega
  show Mild 2 425 (.tuple [.tuple [.int b.1.1, .int b.1.2], .tuple [.int b.2.1, .int b.2.2]]) ∧ (PyData.tuple [.tuple [.int b.1.1, .int b.1.2], .tuple [.int b.2.1, .int b.2.2]]).hasDict = false ∧ (PyData.tuple [.tuple [.int b.1.1, .int b.1.2], .tuple [.int b.2.1, .int b.2.2]]).canLay0 = true
  refine ⟨⟨?_, by simp [PyData.depth, PyData.depthAll], by simp [wt, wtAll]⟩, by simp [PyData.hasDict, PyData.hasDictAll], by simp [PyData.canLay0, PyData.canLayAll0]⟩
  simp only [fineD, fineAll]
  exact ⟨⟨f _ h1, f _ h2, trivial⟩, ⟨f _ h3, f _ h4, trivial⟩, trivial⟩
theorem name_fine {n : List Nat} (h : n = [] ∨ nameL n = true) : fineD (.str (SX.S n)) ∧ wt (.str (SX.S n)) ≤ 82 ∧ PyData.strOk (SX.S n) = true := by
  rcases h with rfl | h
  · exact ⟨(by rw [fineD]; intro c hc; rw [S_cps] at hc; cases hc), (by decide +kernel), (by decide +kernel)⟩
  · obtain ⟨h1, h2, h3⟩ := nameL_is h
    refine ⟨?_, by rw [wt, SX.S_len]; omega, name_strOk h⟩
    rw [fineD]
    intro c hc
    rw [S_cps] at hc
    have := h3 c hc
    omega
theorem canLayAll_of : ∀ {xs : List PyData}, (∀ x ∈ xs, x.canLay0 = true) → PyData.canLayAll0 xs = true
  | [], _ => by simp [PyData.canLayAll0]
  | x :: xs, h => by
    rw [PyData.canLayAll0, h x (by simp), canLayAll_of fun y hy => h y (by simp [hy])]
    rfl
theorem far_fine {k : Nat} (hk : k ≤ 1000) {i : Int} (h : farN k i) : i.natAbs < 10 ^ 100 := by
  unfold farN at h
  have : (10000000000000 : Nat) + 1000 < 10 ^ 100 := by decide +kernel
  omega
theorem tel_fine {x : Tel} (h : TelB 300 x) (hf : few x = true) : FineT x := by
  cases x with
  | land t n o bs w =>
    obtain ⟨h1, h2, h3, h4, h5, h6, h7⟩ := h
    have hb : bs.length < 7 := of_decide_eq_true hf
    have M : Mild 3 (bs.length * 427 + 3) (.tuple (bs.map boxD)) := by
      have := Mild.tup (n := 2) (m := 425) (xs := bs.map boxD) fun y hy => by obtain ⟨b, hb, rfl⟩ := List.mem_map.mp hy; exact (box_fine (h4 b hb)).1
      rw [List.length_map] at this
      exact this
    have n1 := name_fine (.inr h2)
    have n2 := name_fine h3
    have hw := M.wide
    have hd := M.deep
    have nd : PyData.hasDictAll (bs.map boxD) = false := noDictAll_of fun y hy => by obtain ⟨b, hb, rfl⟩ := List.mem_map.mp hy; exact (box_fine (h4 b hb)).2.1
    have ly : PyData.canLayAll0 (bs.map boxD) = true := canLayAll_of fun y hy => by obtain ⟨b, hb, rfl⟩ := List.mem_map.mp hy; exact (box_fine (h4 b hb)).2.2
    have hn : wt (.str (SX.S landL)) = 42 := by decide +kernel
    have fl : fineD (.str (SX.S landL)) := (name_fine (.inr (by decide))).1
    have sl : PyData.strOk (SX.S landL) = true := (name_fine (.inr (by decide))).2.2
    have hw1 := n1.2.1
    have hw2 := n2.2.1
    refine ⟨⟨?_, ?_, ?_⟩, ?_, ?_⟩
    · show fineD (landT t n o bs w)
      unfold landT
      rw [fineD]
      simp only [fineAll]
      exact ⟨fl, by rw [fineD]; exact far_fine (by omega) h1, n1.1, n2.1, M.fine, by rw [fineD]; exact far_fine (by omega) h7, trivial⟩
    · exact tel_depth (.land t n o bs w)
    · show wt (landT t n o bs w) ≤ 4000
      unfold landT
      rw [wt]
      simp only [wtAll, hn]
      have e1 : wt (.int t) = 101 := by rw [wt]
      have e2 : wt (.int w) = 101 := by rw [wt]
      omega
    · show (landT t n o bs w).hasDict = false
      unfold landT
      simp [PyData.hasDict, PyData.hasDictAll, nd]
    · show (landT t n o bs w).canLay0 = true
      unfold landT
      simp [PyData.canLay0, PyData.canLayAll0, ly, sl, n1.2.2, n2.2.2]
  | drop t n =>
    have n1 := name_fine (.inr h.2)
    have hw1 := n1.2.1
    refine ⟨⟨?_, tel_depth (.drop t n), ?_⟩, ?_, ?_⟩
    · show fineD (dropT t n)
      unfold dropT
      rw [fineD]
      simp only [fineAll]
      exact ⟨(name_fine (.inr (by decide))).1, by rw [fineD]; exact far_fine (by omega) h.1, n1.1, trivial⟩
    · show wt (dropT t n) ≤ 4000
      unfold dropT
      rw [wt]
      have hn : wt (.str (SX.S dropL)) = 42 := by decide +kernel
      have e1 : wt (.int t) = 101 := by rw [wt]
      simp only [wtAll]
      omega
    · show (dropT t n).hasDict = false
      unfold dropT
      simp [PyData.hasDict, PyData.hasDictAll]
    · show (dropT t n).canLay0 = true
      unfold dropT
      simp [PyData.canLay0, PyData.canLayAll0, n1.2.2, show PyData.strOk (SX.S dropL) = true from (name_fine (.inr (by decide))).2.2]
  | free t n =>
    have n1 := name_fine (.inr h.2)
    have hw1 := n1.2.1
    refine ⟨⟨?_, tel_depth (.free t n), ?_⟩, ?_, ?_⟩
    · show fineD (freeT t n)
      unfold freeT
      rw [fineD]
      simp only [fineAll]
      exact ⟨(name_fine (.inr (by decide))).1, by rw [fineD]; exact far_fine (by omega) h.1, n1.1, trivial⟩
    · show wt (freeT t n) ≤ 4000
      unfold freeT
      rw [wt]
      have hn : wt (.str (SX.S freeL)) = 42 := by decide +kernel
      have e1 : wt (.int t) = 101 := by rw [wt]
      simp only [wtAll]
      omega
    · show (freeT t n).hasDict = false
      unfold freeT
      simp [PyData.hasDict, PyData.hasDictAll]
    · show (freeT t n).canLay0 = true
      unfold freeT
      simp [PyData.canLay0, PyData.canLayAll0, n1.2.2, show PyData.strOk (SX.S freeL) = true from (name_fine (.inr (by decide))).2.2]
  | spot t n q =>
    have n1 := name_fine (.inr h.2.1)
    have hw1 := n1.2.1
    refine ⟨⟨?_, tel_depth (.spot t n q), ?_⟩, ?_, ?_⟩
    · show fineD (spotT t n q)
      unfold spotT pairD
      rw [fineD]
      simp only [fineAll, fineD]
      have fs := (name_fine (n := spotL) (.inr (by decide))).1
      have fn := n1.1
      rw [fineD] at fs fn
      exact ⟨fs, far_fine (by omega) h.1, fn, ⟨far_fine (by omega) h.2.2.1, far_fine (by omega) h.2.2.2, trivial⟩, trivial⟩
    · show wt (spotT t n q) ≤ 4000
      unfold spotT pairD
      rw [wt]
      have hn : wt (.str (SX.S spotL)) = 42 := by decide +kernel
      have e1 : wt (.int t) = 101 := by rw [wt]
      have e2 : wt (.tuple [.int q.1, .int q.2]) = 209 := by simp [wt, wtAll]
      simp only [wtAll]
      omega
    · show (spotT t n q).hasDict = false
      unfold spotT pairD
      simp [PyData.hasDict, PyData.hasDictAll]
    · show (spotT t n q).canLay0 = true
      unfold spotT pairD
      simp [PyData.canLay0, PyData.canLayAll0, n1.2.2, show PyData.strOk (SX.S spotL) = true from (name_fine (.inr (by decide))).2.2]
theorem tels_repr {T : List Tel} (hl : T.length ≤ 1000) (h : ∀ x ∈ T, FineT x) : reprD [.list (T.map Tel.D)] = some (.fz (.str (PyData.list (T.map Tel.D)).shown)) := by
  have M := Mild.lst (n := 4) (m := 4000) (xs := T.map Tel.D) fun y hy => by obtain ⟨x, hx, rfl⟩ := List.mem_map.mp hy; exact (h x hx).mild
  rw [List.length_map] at M
  refine reprD_ok ⟨M.fine, .inl (noDict_lst fun y hy => by obtain ⟨x, hx, rfl⟩ := List.mem_map.mp hy; exact (h x hx).nd), Nat.le_trans M.deep (by decide), Nat.le_trans M.wide ?_⟩
  unfold lineN
  omega
theorem tels_shaped {T : List Tel} (h : ∀ x ∈ T, FineT x) : SeqAt.shaped (.list (T.map Tel.D)) = true ∧ PyData.eqv (.list (T.map Tel.D)) (.list (T.map Tel.D)) = true := by
  have c : (PyData.list (T.map Tel.D)).canLay0 = true := by
    rw [PyData.canLay0]
    exact canLayAll_of fun y hy => by obtain ⟨x, hx, rfl⟩ := List.mem_map.mp hy; exact (h x hx).lay
  have d : PyData.depthAll (T.map Tel.D) ≤ 4 := depthAll_of fun y hy => by obtain ⟨x, hx, rfl⟩ := List.mem_map.mp hy; exact tel_depth x
  refine ⟨?_, SeqAt.eqv_refl _ c⟩
  unfold SeqAt.shaped
  rw [c, PyData.depth]
  simp
  omega
theorem same_ok {T : List Tel} {P : List SV → RV → Prop} (hl : T.length ≤ 1000) (h : ∀ x ∈ T, FineT x) (k : P [.own (.list (T.map Tel.D)), .fz (.list (T.map Tel.D))] (.fz (.bool true))) : WC c_law_same [.own (.list (T.map Tel.D)), .fz (.list (T.map Tel.D))] P := by
  obtain ⟨h1, h2⟩ := tels_shaped h
  unfold c_law_same b_law_same
  simp_arith [eqD_sh h1 h1, h2, tels_repr hl h]
  exact k
theorem in_order_nil {P : List SV → RV → Prop} (k : P [.fz (.list [])] (.own (.list []))) : WC c_in_order [.own (.list [])] P := by
  unfold c_in_order b_in_order
  simp_arith
  refine wfor (fun i e => e = [.rfz (.list []), .own (.dict []), .unb, .unb]) rfl (fun i d hd e hj => by simp at hd) fun e hj => ?_
  subst hj
  have e1 : canSort (dkeys []) = true := rfl
  have e2 : sortD (dkeys []) = [] := by unfold sortD; exact List.mergeSort_nil
  have e3 : keyed [] = true := rfl
  simp_arith [sortedKD_d, e1, e2, e3]
  refine wlc_map (fun d => d) (by decide) (fun d hd => by cases hd) ?_
  simp_arith
  exact k

structure Handed (T L H : List Tel) : Prop where
  len : H.length ≤ 300
  mem : ∀ x ∈ H, x ∈ T
  one : ∀ L', CountIs lexB pk tk H L' → L' = L
theorem handed_of {T L H : List Tel} (hL : CountIs lexB pk tk T L) (hl : H.length ≤ 300) (hm : ∀ x, x ∈ H ↔ x ∈ T) : Handed T L H :=
  ⟨hl, fun x hx => (hm x).mp hx, fun L' h => CountIs.uniq so_lex tk_inj hm h hL⟩
theorem handed_due {T L H : List Tel} (hL : CountIs lexB pk tk T L) (hl : H.length ≤ 300) (hm : ∀ x, x ∈ H ↔ x ∈ L) : Handed T L H :=
  ⟨hl, fun x hx => hL.mem x ((hm x).mp hx), fun L' h => CountIs.uniq so_lex tk_inj hm h ⟨hL.sorted, fun x h => h, fun y hy => ⟨y, hy, rfl, so_lex.irr _⟩⟩⟩
theorem main (ns : List Int) (hl : ns.length ≤ 63) : ∃ bs, c_law [.fz (.list (ns.map PyData.int))] = some (bs, .fz (.bool true)) := by
  have h : WC c_law [.fz (.list (ns.map PyData.int))] fun _ r => r = .fz (.bool true) := by
    unfold c_law b_law
    simp_arith
    refine world_ok fun p c W hW => ?_
    simp_arith
    refine drawn_ok hW fun p1 c1 T hT hF => ?_
    simp_arith
    refine due_ok (by omega) (fun x hx => (hF x hx).1.nm) fun L hL lL => ?_
    simp_arith
    refine take_ok (by decide) (by decide) fun r p2 c2 a2 b2 => ?_
    have e1 : cutG (T.map Tel.D ++ cutG (T.map Tel.D) none (some r)) none (some 300) = ((T ++ T.take r.toNat).take 300).map Tel.D := by
      rw [cutG_to a2, cutG_to (by decide), ← List.map_take, ← List.map_append, ← List.map_take]
      rfl
    have hM : ∀ x, x ∈ (T ++ T.take r.toNat).take 300 ↔ x ∈ T := fun x => by
      rw [List.take_append, List.take_of_length_le hT, List.mem_append]
      refine ⟨fun h => h.elim id fun h => List.mem_of_mem_take (List.mem_of_mem_take h), .inl⟩
    have lM : ((T ++ T.take r.toNat).take 300).length ≤ 300 := by rw [List.length_take]; omega
    simp_arith
    rw [e1]
    refine ⟨?_, ?_⟩
    · have : (cutG (T.map Tel.D) none (some r)).length ≤ T.length := by
        rw [cutG_to a2, List.length_take, List.length_map]
        omega
      rw [List.length_map]
      omega
    refine turned_ok (by omega) fun p3 c3 R hR1 hR2 => ?_
    simp_arith
    have fT : ∀ x ∈ T, FineT x := fun x hx => tel_fine (hF x hx).1 (hF x hx).2
    have fL : ∀ x ∈ L, FineT x := fun x hx => fT x (hL.mem x hx)
    have H4 : ∀ d ∈ [PyData.list (T.map Tel.D), .list (R.map Tel.D), .list (L.map Tel.D), .list (L.map Tel.D).reverse], ∃ H : List Tel, d = .list (H.map Tel.D) ∧ Handed T L H := fun d hd => by
      simp only [List.mem_cons, List.not_mem_nil, or_false] at hd
      rcases hd with rfl | rfl | rfl | rfl
      · exact ⟨T, rfl, handed_of hL hT fun x => Iff.rfl⟩
      · exact ⟨R, rfl, handed_of hL (by omega) fun x => (hR2 x).trans (hM x)⟩
      · exact ⟨L, rfl, handed_due hL (by omega) fun x => Iff.rfl⟩
      · exact ⟨L.reverse, by rw [List.map_reverse], handed_due hL (by rw [List.length_reverse]; omega) fun x => List.mem_reverse⟩
    refine wfor_all (fun e => ∃ s6 s7 s8 s9 : SV, (s6.lock = false ∧ s7.lock = false ∧ s8.lock = false ∧ s9.lock = false) ∧ e = [.fz (.list (ns.map PyData.int)), .own (penD ns p3 c3), .own W.D, .fz (.list (T.map Tel.D)), .fz (.list (L.map Tel.D)), .fz (.list (R.map Tel.D)), s6, s7, s8, s9])
      ⟨_, _, _, _, ⟨rfl, rfl, rfl, rfl⟩, rfl⟩ (fun d hd e he => ?_) fun e he => ?_
    · obtain ⟨s6, s7, s8, s9, ⟨l6, l7, l8, l9⟩, rfl⟩ := he
      obtain ⟨H, rfl, hH⟩ := H4 d hd
      have fH : ∀ x ∈ H, FineT x := fun x hx => fT x (hH.mem x hx)
      have rH := tels_repr (by have := hH.len; omega) fH
      simp_arith [l6, l7, l8, l9, rH]
      refine wfor_all (fun e => ∃ s8 s9 : SV, (s8.lock = false ∧ s9.lock = false) ∧ e = [.fz (.list (ns.map PyData.int)), .own (penD ns p3 c3), .own W.D, .fz (.list (T.map Tel.D)), .fz (.list (L.map Tel.D)), .fz (.list (R.map Tel.D)), .fz (.list (H.map Tel.D)), .fz (.str (PyData.list (H.map Tel.D)).shown), s8, s9])
        ⟨_, _, ⟨l8, l9⟩, rfl⟩ (fun d hd e he => ?_) fun e he => ?_
      · obtain ⟨s8, s9, ⟨l8, l9⟩, rfl⟩ := he
        simp_arith [l8, l9]
        refine in_order_ok (by have := hH.len; omega) fun L' hL' lL' => ?_
        obtain rfl := hH.one L' hL'
        simp_arith [l8, l9]
        refine same_ok (by omega) fL ?_
        simp_arith [rH]
        refine ⟨by rw [List.length_reverse, List.length_map]; omega, _, _, ⟨?_, ?_⟩, rfl⟩ <;> rfl
      · obtain ⟨s8, s9, ⟨l8, l9⟩, rfl⟩ := he
        exact ⟨_, _, _, _, ⟨rfl, rfl, l8, l9⟩, rfl⟩
    · obtain ⟨s6, s7, s8, s9, ⟨l6, l7, l8, l9⟩, rfl⟩ := he
      simp_arith [l6, l7, l8, l9]
      refine in_order_nil ?_
      simp_arith
  obtain ⟨⟨bs, r⟩, h1, h2⟩ := h
  have h2' : r = .fz (.bool true) := h2
  subst h2'
  exact ⟨bs, h1⟩

end G_k19

namespace G_k19
open PySem PySem.Spec PyProof.Rows L2 L3
def topS (i : Nat) : Stmt := PySem.Challenge.pw_landsentered_k19_which_count_in_order.main.body.getD i (.Pass ⟨0, 0, 0, 0⟩)
abbrev s_place_of : Stmt := topS 2
abbrev s_in_order : Stmt := topS 3
abbrev s_law_take : Stmt := topS 5
abbrev s_law_wide : Stmt := topS 6
abbrev s_law_same : Stmt := topS 7
abbrev s_law_boxes : Stmt := topS 8
abbrev s_law_stretched : Stmt := topS 9
abbrev s_law_stretch : Stmt := topS 10
abbrev s_law_names : Stmt := topS 11
abbrev s_law_world : Stmt := topS 12
abbrev s_law_spot : Stmt := topS 13
abbrev s_law_land : Stmt := topS 14
abbrev s_law_telling : Stmt := topS 15
abbrev s_law_turned : Stmt := topS 16
abbrev s_law_near : Stmt := topS 17
abbrev s_law_drawn : Stmt := topS 18
abbrev s_law_goes_ahead : Stmt := topS 19
abbrev s_law_due : Stmt := topS 20
abbrev s_law : Stmt := topS 21
/-! facts of the top -/
structure FnAt (K : PySem.W.Frag) (mg : Str → Option Value) (g x : Str) (st : Stmt) (ps : List Str) : Prop where
  ex : ∃ f fd, mg g = some (.ref f) ∧ Fun K x x st f fd ∧ Binds K fd ps []
structure Txt (w : World) (K : PySem.W.Frag) (mg : Str → Option Value) : Prop where
  z_sorted : mg "sorted" = none
  z_len : mg "len" = none
  z_abs : mg "abs" = none
  z_range : mg "range" = none
  z_str : mg "str" = none
  z_repr : mg "repr" = none
  z_tuple : mg "tuple" = none
  d_PARTS : ∃ d, mg "PARTS" = some (.ref d) ∧ TabK K w d [("land", 0), ("drop", 0), ("free", 1), ("spot", 2)]
  f_place_of : FnAt K mg "place_of" "place_of" s_place_of ["telling"]
  f_in_order : FnAt K mg "in_order" "in_order" s_in_order ["tellings"]
  f_law_take : FnAt K mg "_law_take" "_law_take" s_law_take ["_law_pen", "_law_many"]
  f_law_wide : FnAt K mg "_law_wide" "_law_wide" s_law_wide ["_law_pen", "_law_many"]
  f_law_same : FnAt K mg "_law_same" "_law_same" s_law_same ["_law_found", "_law_due_here"]
  f_law_boxes : FnAt K mg "_law_boxes" "_law_boxes" s_law_boxes ["_law_pen", "_law_most"]
  f_law_stretched : FnAt K mg "_law_stretched" "_law_stretched" s_law_stretched ["_law_boxes_here", "_law_by", "_law_off"]
  f_law_stretch : FnAt K mg "_law_stretch" "_law_stretch" s_law_stretch ["_law_pen"]
  f_law_names : FnAt K mg "_law_names" "_law_names" s_law_names ["_law_pen", "_law_many"]
  f_law_world : FnAt K mg "_law_world" "_law_world" s_law_world ["_law_pen"]
  f_law_spot : FnAt K mg "_law_spot" "_law_spot" s_law_spot ["_law_pen", "_law_world_here"]
  f_law_land : FnAt K mg "_law_land" "_law_land" s_law_land ["_law_pen", "_law_world_here", "_law_time"]
  f_law_telling : FnAt K mg "_law_telling" "_law_telling" s_law_telling ["_law_pen", "_law_world_here"]
  f_law_turned : FnAt K mg "_law_turned" "_law_turned" s_law_turned ["_law_pen", "_law_some"]
  f_law_near : FnAt K mg "_law_near" "_law_near" s_law_near ["_law_pen", "_law_world_here", "_law_telling_here"]
  f_law_drawn : FnAt K mg "_law_drawn" "_law_drawn" s_law_drawn ["_law_pen", "_law_world_here"]
  f_law_goes_ahead : FnAt K mg "_law_goes_ahead" "_law_goes_ahead" s_law_goes_ahead ["_law_one", "_law_other"]
  f_law_due : FnAt K mg "_law_due" "_law_due" s_law_due ["_law_tellings"]
  f_law : FnAt K mg "law" "law" s_law ["_law_script"]
section
variable {P : Program} {w : World} {K : PySem.W.Frag} {mg : Str → Option Value} {base : Heap}
theorem sc_place_of : FnScope ["telling"] ["telling"] (defScope s_place_of) := ⟨rfl, rfl, rfl, by decide +kernel, rfl, by decide +kernel, by decide +kernel⟩
theorem ok_place_of {f : Addr} {fd : FuncData} (T : Txt w K mg) (F : Fun K "place_of" "place_of" s_place_of f fd) : FnOkG P w K mg base CX0 1 f fd ["telling"] (spOf 1 c_place_of K) := by
  have nd := sc_place_of.nd
  exact fn_data (k := 0) F sc_place_of (by decide) fun cdv A outer s H E hr => (rs_one (rs_ret (re_tup (ra_cons (re_ix (o_ix hr.u65) (re_slot (pv 0)) re_int (fun _ _ => rfl)) (ra_cons (re_kix (by rfl) T.d_PARTS (re_ix (o_ix hr.u65) (re_slot (pv 0)) re_int (fun _ _ => rfl)) (fun _ _ => rfl)) (ra_cons (re_ix (o_ix hr.u65) (re_slot (pv 0)) re_int (fun _ _ => rfl)) ra_nil))))))
theorem sc_in_order : FnScope ["tellings", "found", "telling", "place"] ["tellings"] (defScope s_in_order) := ⟨rfl, rfl, rfl, by decide +kernel, rfl, by decide +kernel, by decide +kernel⟩
theorem ok_in_order {f : Addr} {fd : FuncData} (T : Txt w K mg) (F : Fun K "in_order" "in_order" s_in_order f fd) : FnOkG P w K mg base CX0 2 f fd ["tellings"] (spOf 1 c_in_order K) := by
  obtain ⟨f_place_of, fd_place_of, m_place_of, F_place_of, b_place_of⟩ := T.f_place_of.ex
  have G_place_of := ok_place_of (P := P) (w := w) (base := base) T F_place_of
  have nd := sc_in_order.nd
  exact fn_data (k := 1) F sc_in_order (by decide) fun cdv A outer s H E hr => (rs_cons (rs_set (i := 1) nd rfl (by first | exact Or.inl rfl | exact Or.inr rfl) re_dict0)
 (rs_cons (rs_for PassesOwn.never rfl (ri_any (re_slot (pv 0))) (rg_slot (pg_name (i := 2) nd rfl (by first | exact Or.inl rfl | exact Or.inr rfl)))
 (rs_cons (rs_set (i := 3) nd rfl (by first | exact Or.inl rfl | exact Or.inr rfl) (re_user runF_len G_place_of (hr.mono (by decide)) (by rfl) m_place_of F_place_of.kp b_place_of (ra_cons (re_slot (pv 2)) ra_nil)))
 (rs_one (rs_if (PW.pt (rw_or (rt_cmp (o_notIn hr.u65) (re_slot (pv 3)) (re_slot (pv 1)) (by with_unfolding_all rfl)) (rw_or1 (rt_cmp (o_ltA hr) (re_slot (pv 2)) (re_ix (o_ix hr.u65) (re_slot (pv 1)) (re_slot (pv 3)) (fun _ _ => rfl)) (nomark _)))))
 (rs_one (rs_setKeyT hr.u65 (pv 1) (re_slot (pv 3)) (re_slot (pv 2))))
 rs_nil))))
 (rs_one (rs_ret (re_lc rfl nd (ri_any (re_callB (c_sortedK hr) (by rfl) T.z_sorted (by decide +kernel) (ra_cons (re_slot (pv 1)) ra_nil))) (blkOk_by (own := [("place", 3)]) (by kernel_rfl)) (by decide) (fun _ _ _ _ _ => (rg_slot (pg_name (i := 3) nd rfl (by first | exact Or.inl rfl | exact Or.inr rfl)))) (fun _ _ _ _ _ => rts_yes) (fun _ _ _ _ _ => (re_ix (o_ix hr.u65) (re_slot (pv 1)) (re_slot (pv 3)) (fun _ _ => rfl))))))))
theorem sc_law_take : FnScope ["_law_pen", "_law_many", "_law_digit", "_law_at", "_law_cell", "_law_one", "_law_two"] ["_law_pen", "_law_many"] (defScope s_law_take) := ⟨rfl, rfl, rfl, by decide +kernel, rfl, by decide +kernel, by decide +kernel⟩
theorem ok_law_take {f : Addr} {fd : FuncData} (T : Txt w K mg) (F : Fun K "_law_take" "_law_take" s_law_take f fd) : FnOkG P w K mg base CX0 1 f fd ["_law_pen", "_law_many"] (spOf 2 c_law_take K) := by
  have nd := sc_law_take.nd
  exact fn_data (k := 0) F sc_law_take (by decide) fun cdv A outer s H E hr => (rs_cons (rs_if (rt_cmp o_gt (re_ix (o_ix hr.u65) (re_slot (pv 0)) re_int (fun _ _ => rfl)) re_int (nomark _))
 (rs_cons (rs_set (i := 2) nd rfl (by first | exact Or.inl rfl | exact Or.inr rfl) (re_op o_mod (re_ix (o_ix hr.u65) (re_slot (pv 0)) re_int (fun _ _ => rfl)) (re_slot (pv 1))))
 (rs_cons (rs_setIx (pv 0) re_int (re_op o_div (re_ix (o_ix hr.u65) (re_slot (pv 0)) re_int (fun _ _ => rfl)) (re_slot (pv 1))))
 (rs_one (rs_ret (re_slot (pv 2))))))
 rs_nil)
 (rs_cons (rs_set (i := 3) nd rfl (by first | exact Or.inl rfl | exact Or.inr rfl) (re_ix (o_ix hr.u65) (re_slot (pv 0)) re_int (fun _ _ => rfl)))
 (rs_cons (rs_setIx (pv 0) re_int (re_op o_add (re_slot (pv 3)) re_int))
 (rs_cons (rs_set (i := 4) nd rfl (by first | exact Or.inl rfl | exact Or.inr rfl) re_int)
 (rs_cons (rs_if (rt_cmp o_gt (re_callB c_len (by rfl) T.z_len (by decide +kernel) (ra_cons (re_ix (o_ix hr.u65) (re_slot (pv 0)) re_int (fun _ _ => rfl)) ra_nil)) re_int (nomark _))
 (rs_one (rs_set (i := 4) nd rfl (by first | exact Or.inl rfl | exact Or.inr rfl) (re_ix (o_ix hr.u65) (re_ix (o_ix hr.u65) (re_slot (pv 0)) re_int (fun _ _ => rfl)) (re_op o_mod (re_slot (pv 3)) (re_callB c_len (by rfl) T.z_len (by decide +kernel) (ra_cons (re_ix (o_ix hr.u65) (re_slot (pv 0)) re_int (fun _ _ => rfl)) ra_nil))) (fun _ _ => rfl))))
 rs_nil)
 (rs_cons (rs_if (PW.pt (rw_and (rt_cmp o_lt (re_slot (pv 3)) (re_callB c_len (by rfl) T.z_len (by decide +kernel) (ra_cons (re_ix (o_ix hr.u65) (re_slot (pv 0)) re_int (fun _ _ => rfl)) ra_nil)) (nomark _)) (rw_and1 (rt_cmp o_ge (re_callB c_abs (by rfl) T.z_abs (by decide +kernel) (ra_cons (re_slot (pv 4)) ra_nil)) (re_op o_pow re_int re_int) (nomark _)))))
 (rs_cons (rs_setIx (pv 0) re_int (re_op o_div (re_callB c_abs (by rfl) T.z_abs (by decide +kernel) (ra_cons (re_slot (pv 4)) ra_nil)) (re_slot (pv 1))))
 (rs_one (rs_ret (re_op o_mod (re_callB c_abs (by rfl) T.z_abs (by decide +kernel) (ra_cons (re_slot (pv 4)) ra_nil)) (re_slot (pv 1))))))
 rs_nil)
 (rs_cons (rs_set (i := 5) nd rfl (by first | exact Or.inl rfl | exact Or.inr rfl) (re_op o_mod (re_op o_mulR (re_op o_add (re_op o_add (re_op o_mod (re_slot (pv 4)) re_int) (re_op o_mulR re_int (re_slot (pv 3)))) re_int) re_int) re_int))
 (rs_cons (rs_set (i := 6) nd rfl (by first | exact Or.inl rfl | exact Or.inr rfl) (re_op o_mod (re_op o_add (re_op o_add (re_op o_mulR (re_slot (pv 5)) (re_slot (pv 5))) (re_op o_mulR re_int (re_slot (pv 5)))) (re_op o_mulR re_int (re_slot (pv 3)))) re_int))
 (rs_one (rs_ret (re_op o_mod (re_op o_div (re_op o_mod (re_op o_mulR (re_slot (pv 6)) (re_op o_add (re_op o_mod (re_slot (pv 6)) re_int) re_int)) re_int) re_int) (re_slot (pv 1)))))))))))))
theorem sc_law_wide : FnScope ["_law_pen", "_law_many", "_law_found", "_law_k"] ["_law_pen", "_law_many"] (defScope s_law_wide) := ⟨rfl, rfl, rfl, by decide +kernel, rfl, by decide +kernel, by decide +kernel⟩
theorem ok_law_wide {f : Addr} {fd : FuncData} (T : Txt w K mg) (F : Fun K "_law_wide" "_law_wide" s_law_wide f fd) : FnOkG P w K mg base CX0 2 f fd ["_law_pen", "_law_many"] (spOf 2 c_law_wide K) := by
  obtain ⟨f_law_take, fd_law_take, m_law_take, F_law_take, b_law_take⟩ := T.f_law_take.ex
  have G_law_take := ok_law_take (P := P) (w := w) (base := base) T F_law_take
  have nd := sc_law_wide.nd
  exact fn_data (k := 1) F sc_law_wide (by decide) fun cdv A outer s H E hr => (rs_cons (rs_if (rt_cmp o_lt (re_slot (pv 1)) (re_op o_pow re_int re_int) (nomark _))
 (rs_one (rs_ret (re_user runF_len G_law_take (hr.mono (by decide)) (by rfl) m_law_take F_law_take.kp b_law_take (ra_cons (re_slot (pv 0)) (ra_cons (re_slot (pv 1)) ra_nil)))))
 rs_nil)
 (rs_cons (rs_set (i := 2) nd rfl (by first | exact Or.inl rfl | exact Or.inr rfl) re_int)
 (rs_cons (rs_for PassesOwn.never rfl (ri_range1 (by rfl) T.z_range (re_op o_add (re_op o_div (re_callB c_len (by rfl) T.z_len (by decide +kernel) (ra_cons (re_callTy c_str (by rfl) T.z_str (by decide +kernel) (ra_cons (re_slot (pv 1)) ra_nil)) ra_nil)) re_int) re_int)) (rg_slot (pg_name (i := 3) nd rfl (by first | exact Or.inl rfl | exact Or.inr rfl)))
 (rs_one (rs_set (i := 2) nd rfl (by first | exact Or.inl rfl | exact Or.inr rfl) (re_op o_add (re_op o_mulR (re_slot (pv 2)) (re_op o_pow re_int re_int)) (re_user runF_len G_law_take (hr.mono (by decide)) (by rfl) m_law_take F_law_take.kp b_law_take (ra_cons (re_slot (pv 0)) (ra_cons (re_op o_pow re_int re_int) ra_nil)))))))
 (rs_one (rs_ret (re_op o_mod (re_slot (pv 2)) (re_slot (pv 1))))))))
theorem sc_law_same : FnScope ["_law_found", "_law_due_here"] ["_law_found", "_law_due_here"] (defScope s_law_same) := ⟨rfl, rfl, rfl, by decide +kernel, rfl, by decide +kernel, by decide +kernel⟩
theorem ok_law_same {f : Addr} {fd : FuncData} (T : Txt w K mg) (F : Fun K "_law_same" "_law_same" s_law_same f fd) : FnOkG P w K mg base CX0 1 f fd ["_law_found", "_law_due_here"] (spOf 2 c_law_same K) := by
  have nd := sc_law_same.nd
  exact fn_data (k := 0) F sc_law_same (by decide) fun cdv A outer s H E hr => (rs_one (rs_ret (re_truth (rb_and (rb_val (re_cmp (o_eq hr.units) (re_slot (pv 0)) (re_slot (pv 1)) (nomark _))) (rb_one (rb_val (re_cmp (o_eq hr.units) (re_callB (c_repr hr) (by rfl) T.z_repr (by decide +kernel) (ra_cons (re_slot (pv 0)) ra_nil)) (re_callB (c_repr hr) (by rfl) T.z_repr (by decide +kernel) (ra_cons (re_slot (pv 1)) ra_nil)) (nomark _))))))))
theorem sc_law_boxes : FnScope ["_law_pen", "_law_most", "_law_low", "_law_found", "_law_k", "_law_first", "_law_last", "_law_wide_here", "_law_w"] ["_law_pen", "_law_most"] (defScope s_law_boxes) := ⟨rfl, rfl, rfl, by decide +kernel, rfl, by decide +kernel, by decide +kernel⟩
theorem ok_law_boxes {f : Addr} {fd : FuncData} (T : Txt w K mg) (F : Fun K "_law_boxes" "_law_boxes" s_law_boxes f fd) : FnOkG P w K mg base CX0 2 f fd ["_law_pen", "_law_most"] (spOf 2 c_law_boxes K) := by
  obtain ⟨f_law_take, fd_law_take, m_law_take, F_law_take, b_law_take⟩ := T.f_law_take.ex
  have G_law_take := ok_law_take (P := P) (w := w) (base := base) T F_law_take
  have nd := sc_law_boxes.nd
  exact fn_data (k := 1) F sc_law_boxes (by decide) fun cdv A outer s H E hr => (rs_cons (rs_set (i := 2) nd rfl (by first | exact Or.inl rfl | exact Or.inr rfl) (re_lst (ra_cons (re_user runF_len G_law_take (hr.mono (by decide)) (by rfl) m_law_take F_law_take.kp b_law_take (ra_cons (re_slot (pv 0)) (ra_cons re_int ra_nil))) (ra_cons (re_user runF_len G_law_take (hr.mono (by decide)) (by rfl) m_law_take F_law_take.kp b_law_take (ra_cons (re_slot (pv 0)) (ra_cons re_int ra_nil))) ra_nil))))
 (rs_cons (rs_set (i := 3) nd rfl (by first | exact Or.inl rfl | exact Or.inr rfl) (re_lst (ra_cons (re_tup (ra_cons (re_callTy (c_tuple rfl) (by rfl) T.z_tuple (by decide +kernel) (ra_cons (re_slot (pv 2)) ra_nil)) (ra_cons (re_tup (ra_cons (re_op o_add (re_ix (o_ix hr.u65) (re_slot (pv 2)) re_int (fun _ _ => rfl)) (re_user runF_len G_law_take (hr.mono (by decide)) (by rfl) m_law_take F_law_take.kp b_law_take (ra_cons (re_slot (pv 0)) (ra_cons re_int ra_nil)))) (ra_cons (re_op o_add (re_ix (o_ix hr.u65) (re_slot (pv 2)) re_int (fun _ _ => rfl)) (re_user runF_len G_law_take (hr.mono (by decide)) (by rfl) m_law_take F_law_take.kp b_law_take (ra_cons (re_slot (pv 0)) (ra_cons re_int ra_nil)))) ra_nil))) ra_nil))) ra_nil)))
 (rs_cons (rs_for PassesOwn.never rfl (ri_range1 (by rfl) T.z_range (re_user runF_len G_law_take (hr.mono (by decide)) (by rfl) m_law_take F_law_take.kp b_law_take (ra_cons (re_slot (pv 0)) (ra_cons (re_slot (pv 1)) ra_nil)))) (rg_slot (pg_name (i := 4) nd rfl (by first | exact Or.inl rfl | exact Or.inr rfl)))
 (rs_cons (rs_asg (re_ix (o_ix hr.u65) (re_slot (pv 3)) (re_un u_neg re_int) (fun _ _ => rfl)) (rg_tup rfl (rgs_cons (rg_slot (pg_name (i := 5) nd rfl (by first | exact Or.inl rfl | exact Or.inr rfl))) (rgs_cons (rg_slot (pg_name (i := 6) nd rfl (by first | exact Or.inl rfl | exact Or.inr rfl))) rgs_nil))))
 (rs_cons (rs_set (i := 7) nd rfl (by first | exact Or.inl rfl | exact Or.inr rfl) (re_lst (ra_cons (re_user runF_len G_law_take (hr.mono (by decide)) (by rfl) m_law_take F_law_take.kp b_law_take (ra_cons (re_slot (pv 0)) (ra_cons re_int ra_nil))) (ra_cons (re_user runF_len G_law_take (hr.mono (by decide)) (by rfl) m_law_take F_law_take.kp b_law_take (ra_cons (re_slot (pv 0)) (ra_cons re_int ra_nil))) ra_nil))))
 (rs_cons (rs_setLc (i := 2) rfl nd rfl rfl (sw_true rfl rfl rfl (by decide +kernel)) (ri_range1 (by rfl) T.z_range re_int) (blkOk_by (own := [("_law_w", 8)]) (by kernel_rfl)) (by decide) (fun _ _ _ _ _ => (rg_slot (pg_name (i := 8) nd rfl (by first | exact Or.inl rfl | exact Or.inr rfl)))) (fun _ _ _ _ _ => rts_yes) (fun _ _ _ _ _ => (re_op o_add (re_op o_sub (re_op o_sub (re_ix (o_ix hr.u65) (re_slot (pv 5)) (re_slot (pv 8)) (fun _ _ => rfl)) (re_ix (o_ix hr.u65) (re_slot (pv 7)) (re_slot (pv 8)) (fun _ _ => rfl))) re_int) (re_user runF_len G_law_take (hr.mono (by decide)) (by rfl) m_law_take F_law_take.kp b_law_take (ra_cons (re_slot (pv 0)) (ra_cons (re_op o_add (re_op o_add (re_op o_sub (re_ix (o_ix hr.u65) (re_slot (pv 6)) (re_slot (pv 8)) (fun _ _ => rfl)) (re_ix (o_ix hr.u65) (re_slot (pv 5)) (re_slot (pv 8)) (fun _ _ => rfl))) (re_ix (o_ix hr.u65) (re_slot (pv 7)) (re_slot (pv 8)) (fun _ _ => rfl))) re_int) ra_nil))))))
 (rs_one (rs_expr (re_app (pv 3) (re_tup (ra_cons (re_callTy (c_tuple rfl) (by rfl) T.z_tuple (by decide +kernel) (ra_cons (re_slot (pv 2)) ra_nil)) (ra_cons (re_tup (ra_cons (re_op o_add (re_ix (o_ix hr.u65) (re_slot (pv 2)) re_int (fun _ _ => rfl)) (re_ix (o_ix hr.u65) (re_slot (pv 7)) re_int (fun _ _ => rfl))) (ra_cons (re_op o_add (re_ix (o_ix hr.u65) (re_slot (pv 2)) re_int (fun _ _ => rfl)) (re_ix (o_ix hr.u65) (re_slot (pv 7)) re_int (fun _ _ => rfl))) ra_nil))) ra_nil))))))))))
 (rs_one (rs_ret (re_slot (pv 3)))))))
theorem sc_law_stretched : FnScope ["_law_boxes_here", "_law_by", "_law_off", "_law_found", "_law_low", "_law_high", "_law_first"] ["_law_boxes_here", "_law_by", "_law_off"] (defScope s_law_stretched) := ⟨rfl, rfl, rfl, by decide +kernel, rfl, by decide +kernel, by decide +kernel⟩
theorem ok_law_stretched {f : Addr} {fd : FuncData} (T : Txt w K mg) (F : Fun K "_law_stretched" "_law_stretched" s_law_stretched f fd) : FnOkG P w K mg base CX0 1 f fd ["_law_boxes_here", "_law_by", "_law_off"] (spOf 3 c_law_stretched K) := by
  have nd := sc_law_stretched.nd
  exact fn_data (k := 0) F sc_law_stretched (by decide) fun cdv A outer s H E hr => (rs_cons (rs_set (i := 3) nd rfl (by first | exact Or.inl rfl | exact Or.inr rfl) (re_lst ra_nil))
 (rs_cons (rs_for PassesOwn.never rfl (ri_any (re_slot (pv 0))) (rg_tup rfl (rgs_cons (rg_slot (pg_name (i := 4) nd rfl (by first | exact Or.inl rfl | exact Or.inr rfl))) (rgs_cons (rg_slot (pg_name (i := 5) nd rfl (by first | exact Or.inl rfl | exact Or.inr rfl))) rgs_nil)))
 (rs_cons (rs_set (i := 6) nd rfl (by first | exact Or.inl rfl | exact Or.inr rfl) (re_tup (ra_cons (re_op o_add (re_op o_mulR (re_ix (o_ix hr.u65) (re_slot (pv 4)) re_int (fun _ _ => rfl)) (re_slot (pv 1))) (re_ix (o_ix hr.u65) (re_slot (pv 2)) re_int (fun _ _ => rfl))) (ra_cons (re_op o_add (re_op o_mulR (re_ix (o_ix hr.u65) (re_slot (pv 4)) re_int (fun _ _ => rfl)) (re_slot (pv 1))) (re_ix (o_ix hr.u65) (re_slot (pv 2)) re_int (fun _ _ => rfl))) ra_nil))))
 (rs_one (rs_expr (re_app (pv 3) (re_tup (ra_cons (re_slot (pv 6)) (ra_cons (re_tup (ra_cons (re_op o_add (re_op o_sub (re_op o_add (re_op o_mulR (re_ix (o_ix hr.u65) (re_slot (pv 5)) re_int (fun _ _ => rfl)) (re_slot (pv 1))) (re_slot (pv 1))) re_int) (re_ix (o_ix hr.u65) (re_slot (pv 2)) re_int (fun _ _ => rfl))) (ra_cons (re_op o_add (re_op o_sub (re_op o_add (re_op o_mulR (re_ix (o_ix hr.u65) (re_slot (pv 5)) re_int (fun _ _ => rfl)) (re_slot (pv 1))) (re_slot (pv 1))) re_int) (re_ix (o_ix hr.u65) (re_slot (pv 2)) re_int (fun _ _ => rfl))) ra_nil))) ra_nil))))))))
 (rs_one (rs_ret (re_callTy (c_tuple rfl) (by rfl) T.z_tuple (by decide +kernel) (ra_cons (re_slot (pv 3)) ra_nil))))))
theorem sc_law_stretch : FnScope ["_law_pen", "_law_by", "_law_off"] ["_law_pen"] (defScope s_law_stretch) := ⟨rfl, rfl, rfl, by decide +kernel, rfl, by decide +kernel, by decide +kernel⟩
theorem ok_law_stretch {f : Addr} {fd : FuncData} (T : Txt w K mg) (F : Fun K "_law_stretch" "_law_stretch" s_law_stretch f fd) : FnOkG P w K mg base CX0 3 f fd ["_law_pen"] (spOf 1 c_law_stretch K) := by
  obtain ⟨f_law_take, fd_law_take, m_law_take, F_law_take, b_law_take⟩ := T.f_law_take.ex
  have G_law_take := ok_law_take (P := P) (w := w) (base := base) T F_law_take
  obtain ⟨f_law_wide, fd_law_wide, m_law_wide, F_law_wide, b_law_wide⟩ := T.f_law_wide.ex
  have G_law_wide := ok_law_wide (P := P) (w := w) (base := base) T F_law_wide
  have nd := sc_law_stretch.nd
  exact fn_data (k := 2) F sc_law_stretch (by decide) fun cdv A outer s H E hr => (rs_cons (rs_set (i := 1) nd rfl (by first | exact Or.inl rfl | exact Or.inr rfl) (re_ix (o_ix hr.u65) (re_lst (ra_cons re_int (ra_cons re_int (ra_cons re_int (ra_cons re_int (ra_cons re_int (ra_cons (re_op o_pow re_int re_int) ra_nil))))))) (re_user runF_len G_law_take (hr.mono (by decide)) (by rfl) m_law_take F_law_take.kp b_law_take (ra_cons (re_slot (pv 0)) (ra_cons re_int ra_nil))) (fun _ _ => rfl)))
 (rs_cons (rs_set (i := 2) nd rfl (by first | exact Or.inl rfl | exact Or.inr rfl) (re_ix (o_ix hr.u65) (re_lst (ra_cons (re_tup (ra_cons re_int (ra_cons re_int ra_nil))) (ra_cons (re_tup (ra_cons (re_op o_sub (re_user runF_len G_law_take (hr.mono (by decide)) (by rfl) m_law_take F_law_take.kp b_law_take (ra_cons (re_slot (pv 0)) (ra_cons re_int ra_nil))) re_int) (ra_cons (re_op o_sub (re_user runF_len G_law_take (hr.mono (by decide)) (by rfl) m_law_take F_law_take.kp b_law_take (ra_cons (re_slot (pv 0)) (ra_cons re_int ra_nil))) re_int) ra_nil))) ra_nil))) (re_user runF_len G_law_take (hr.mono (by decide)) (by rfl) m_law_take F_law_take.kp b_law_take (ra_cons (re_slot (pv 0)) (ra_cons re_int ra_nil))) (fun _ _ => rfl)))
 (rs_cons (rs_if (rt_cmp (o_eq hr.units) (re_slot (pv 1)) (re_op o_pow re_int re_int) (nomark _))
 (rs_one (rs_set (i := 2) nd rfl (by first | exact Or.inl rfl | exact Or.inr rfl) (re_tup (ra_cons (re_user runF_len G_law_wide (hr.mono (by decide)) (by rfl) m_law_wide F_law_wide.kp b_law_wide (ra_cons (re_slot (pv 0)) (ra_cons (re_op o_pow re_int re_int) ra_nil))) (ra_cons (re_op o_sub re_int (re_user runF_len G_law_wide (hr.mono (by decide)) (by rfl) m_law_wide F_law_wide.kp b_law_wide (ra_cons (re_slot (pv 0)) (ra_cons (re_op o_pow re_int re_int) ra_nil)))) ra_nil)))))
 rs_nil)
 (rs_one (rs_ret (re_tup (ra_cons (re_slot (pv 1)) (ra_cons (re_slot (pv 2)) ra_nil))))))))
theorem sc_law_names : FnScope ["_law_pen", "_law_many", "_law_letters", "_law_words", "_law_base", "_law_start", "_law_manner", "_law_long", "_law_at", "_law_signs", "_law_k", "_law_sign"] ["_law_pen", "_law_many"] (defScope s_law_names) := ⟨rfl, rfl, rfl, by decide +kernel, rfl, by decide +kernel, by decide +kernel⟩
theorem ok_law_names {f : Addr} {fd : FuncData} (T : Txt w K mg) (F : Fun K "_law_names" "_law_names" s_law_names f fd) : FnOkG P w K mg base CX0 2 f fd ["_law_pen", "_law_many"] (spOf 2 c_law_names K) := by
  obtain ⟨f_law_take, fd_law_take, m_law_take, F_law_take, b_law_take⟩ := T.f_law_take.ex
  have G_law_take := ok_law_take (P := P) (w := w) (base := base) T F_law_take
  have nd := sc_law_names.nd
  exact fn_data (k := 1) F sc_law_names (by decide) fun cdv A outer s H E hr => (rs_cons (rs_set (i := 2) nd rfl (by first | exact Or.inl rfl | exact Or.inr rfl) re_str)
 (rs_cons (rs_set (i := 3) nd rfl (by first | exact Or.inl rfl | exact Or.inr rfl) (re_lst (ra_cons re_str (ra_cons re_str (ra_cons re_str (ra_cons re_str (ra_cons re_str (ra_cons re_str (ra_cons re_str (ra_cons re_str (ra_cons re_str (ra_cons re_str (ra_cons re_str (ra_cons re_str (ra_cons re_str ra_nil)))))))))))))))
 (rs_cons (rs_set (i := 4) nd rfl (by first | exact Or.inl rfl | exact Or.inr rfl) (re_m1 PySem.F.slot_str_join PySem.F.type_str_join m_join re_str (re_lc rfl nd (ri_range1 (by rfl) T.z_range re_int) (blkOk_by (own := [("_law_k", 10)]) (by kernel_rfl)) (by decide) (fun _ _ _ _ _ => (rg_slot (pg_name (i := 10) nd rfl (by first | exact Or.inl rfl | exact Or.inr rfl)))) (fun _ _ _ _ _ => rts_yes) (fun _ _ _ _ _ => (re_ix (o_ix hr.u65) (re_slot (pv 2)) (re_user runF_len G_law_take (hr.mono (by decide)) (by rfl) m_law_take F_law_take.kp b_law_take (ra_cons (re_slot (pv 0)) (ra_cons re_int ra_nil))) (fun _ _ => rfl))))))
 (rs_cons (rs_set (i := 5) nd rfl (by first | exact Or.inl rfl | exact Or.inr rfl) (re_user runF_len G_law_take (hr.mono (by decide)) (by rfl) m_law_take F_law_take.kp b_law_take (ra_cons (re_slot (pv 0)) (ra_cons re_int ra_nil))))
 (rs_cons (rs_set (i := 6) nd rfl (by first | exact Or.inl rfl | exact Or.inr rfl) (re_user runF_len G_law_take (hr.mono (by decide)) (by rfl) m_law_take F_law_take.kp b_law_take (ra_cons (re_slot (pv 0)) (ra_cons re_int ra_nil))))
 (rs_cons (rs_if (rt_cmp (o_eq hr.units) (re_slot (pv 6)) re_int (nomark _))
 (rs_one (rs_ret (re_lc rfl nd (ri_range1 (by rfl) T.z_range (re_slot (pv 1))) (blkOk_by (own := [("_law_k", 10)]) (by kernel_rfl)) (by decide) (fun _ _ _ _ _ => (rg_slot (pg_name (i := 10) nd rfl (by first | exact Or.inl rfl | exact Or.inr rfl)))) (fun _ _ _ _ _ => rts_yes) (fun _ _ _ _ _ => (re_sl (re_slot (pv 4)) ro_no (ro_sm (re_op o_add (re_op o_mod (re_op o_add (re_slot (pv 5)) (re_op o_mulR re_int (re_slot (pv 10)))) re_int) re_int)))))))
 rs_nil)
 (rs_cons (rs_if (rt_cmp (o_eq hr.units) (re_slot (pv 6)) re_int (nomark _))
 (rs_one (rs_ret (re_lc rfl nd (ri_range1 (by rfl) T.z_range (re_slot (pv 1))) (blkOk_by (own := [("_law_k", 10)]) (by kernel_rfl)) (by decide) (fun _ _ _ _ _ => (rg_slot (pg_name (i := 10) nd rfl (by first | exact Or.inl rfl | exact Or.inr rfl)))) (fun _ _ _ _ _ => rts_yes) (fun _ _ _ _ _ => (re_ix (o_ix hr.u65) (re_slot (pv 3)) (re_op o_mod (re_op o_add (re_slot (pv 5)) (re_slot (pv 10))) re_int) (fun _ _ => rfl))))))
 rs_nil)
 (rs_cons (rs_set (i := 7) nd rfl (by first | exact Or.inl rfl | exact Or.inr rfl) (re_op o_add re_int (re_user runF_len G_law_take (hr.mono (by decide)) (by rfl) m_law_take F_law_take.kp b_law_take (ra_cons (re_slot (pv 0)) (ra_cons re_int ra_nil)))))
 (rs_cons (rs_set (i := 8) nd rfl (by first | exact Or.inl rfl | exact Or.inr rfl) (re_user runF_len G_law_take (hr.mono (by decide)) (by rfl) m_law_take F_law_take.kp b_law_take (ra_cons (re_slot (pv 0)) (ra_cons (re_slot (pv 7)) ra_nil))))
 (rs_cons (rs_setLc (i := 9) rfl nd rfl rfl (sw_true rfl rfl rfl (by decide +kernel)) (ri_range1 (by rfl) T.z_range (re_slot (pv 1))) (blkOk_by (own := [("_law_k", 10)]) (by kernel_rfl)) (by decide) (fun _ _ _ _ _ => (rg_slot (pg_name (i := 10) nd rfl (by first | exact Or.inl rfl | exact Or.inr rfl)))) (fun _ _ _ _ _ => rts_yes) (fun _ _ _ _ _ => (re_ix (o_ix hr.u65) (re_slot (pv 2)) (re_op o_mod (re_op o_add (re_slot (pv 5)) (re_op o_mulR re_int (re_slot (pv 10)))) re_int) (fun _ _ => rfl))))
 (rs_one (rs_ret (re_lc rfl nd (ri_any (re_slot (pv 9))) (blkOk_by (own := [("_law_sign", 11)]) (by kernel_rfl)) (by decide) (fun _ _ _ _ _ => (rg_slot (pg_name (i := 11) nd rfl (by first | exact Or.inl rfl | exact Or.inr rfl)))) (fun _ _ _ _ _ => rts_yes) (fun _ _ _ _ _ => (re_op o_add (re_op o_add (re_sl (re_slot (pv 4)) ro_no (ro_sm (re_slot (pv 8)))) (re_slot (pv 11))) (re_sl (re_slot (pv 4)) (ro_sm (re_op o_add (re_slot (pv 8)) re_int)) (ro_sm (re_slot (pv 7)))))))))))))))))))
theorem sc_law_world : FnScope ["_law_pen", "_law_by", "_law_off", "_law_far", "_law_begin", "_law_span", "_law_things", "_law_lands"] ["_law_pen"] (defScope s_law_world) := ⟨rfl, rfl, rfl, by decide +kernel, rfl, by decide +kernel, by decide +kernel⟩
theorem ok_law_world {f : Addr} {fd : FuncData} (T : Txt w K mg) (F : Fun K "_law_world" "_law_world" s_law_world f fd) : FnOkG P w K mg base CX0 4 f fd ["_law_pen"] (spOf 1 c_law_world K) := by
  obtain ⟨f_law_stretch, fd_law_stretch, m_law_stretch, F_law_stretch, b_law_stretch⟩ := T.f_law_stretch.ex
  have G_law_stretch := ok_law_stretch (P := P) (w := w) (base := base) T F_law_stretch
  obtain ⟨f_law_wide, fd_law_wide, m_law_wide, F_law_wide, b_law_wide⟩ := T.f_law_wide.ex
  have G_law_wide := ok_law_wide (P := P) (w := w) (base := base) T F_law_wide
  obtain ⟨f_law_take, fd_law_take, m_law_take, F_law_take, b_law_take⟩ := T.f_law_take.ex
  have G_law_take := ok_law_take (P := P) (w := w) (base := base) T F_law_take
  obtain ⟨f_law_names, fd_law_names, m_law_names, F_law_names, b_law_names⟩ := T.f_law_names.ex
  have G_law_names := ok_law_names (P := P) (w := w) (base := base) T F_law_names
  have nd := sc_law_world.nd
  exact fn_data (k := 3) F sc_law_world (by decide) fun cdv A outer s H E hr => (rs_cons (rs_asg (re_user runF_len G_law_stretch (hr.mono (by decide)) (by rfl) m_law_stretch F_law_stretch.kp b_law_stretch (ra_cons (re_slot (pv 0)) ra_nil)) (rg_tup rfl (rgs_cons (rg_slot (pg_name (i := 1) nd rfl (by first | exact Or.inl rfl | exact Or.inr rfl))) (rgs_cons (rg_slot (pg_name (i := 2) nd rfl (by first | exact Or.inl rfl | exact Or.inr rfl))) rgs_nil))))
 (rs_cons (rs_set (i := 3) nd rfl (by first | exact Or.inl rfl | exact Or.inr rfl) (re_op o_pow re_int re_int))
 (rs_cons (rs_set (i := 4) nd rfl (by first | exact Or.inl rfl | exact Or.inr rfl) (re_ix (o_ix hr.u65) (re_lst (ra_cons re_int (ra_cons re_int (ra_cons (re_op o_sub (re_slot (pv 3)) re_int) (ra_cons (re_user runF_len G_law_wide (hr.mono (by decide)) (by rfl) m_law_wide F_law_wide.kp b_law_wide (ra_cons (re_slot (pv 0)) (ra_cons (re_op o_sub (re_slot (pv 3)) re_int) ra_nil))) ra_nil))))) (re_user runF_len G_law_take (hr.mono (by decide)) (by rfl) m_law_take F_law_take.kp b_law_take (ra_cons (re_slot (pv 0)) (ra_cons re_int ra_nil))) (fun _ _ => rfl)))
 (rs_cons (rs_set (i := 5) nd rfl (by first | exact Or.inl rfl | exact Or.inr rfl) (re_op o_add re_int (re_user runF_len G_law_take (hr.mono (by decide)) (by rfl) m_law_take F_law_take.kp b_law_take (ra_cons (re_slot (pv 0)) (ra_cons re_int ra_nil)))))
 (rs_cons (rs_set (i := 6) nd rfl (by first | exact Or.inl rfl | exact Or.inr rfl) (re_user runF_len G_law_names (hr.mono (by decide)) (by rfl) m_law_names F_law_names.kp b_law_names (ra_cons (re_slot (pv 0)) (ra_cons (re_op o_add re_int (re_user runF_len G_law_take (hr.mono (by decide)) (by rfl) m_law_take F_law_take.kp b_law_take (ra_cons (re_slot (pv 0)) (ra_cons re_int ra_nil)))) ra_nil))))
 (rs_cons (rs_set (i := 7) nd rfl (by first | exact Or.inl rfl | exact Or.inr rfl) (re_user runF_len G_law_names (hr.mono (by decide)) (by rfl) m_law_names F_law_names.kp b_law_names (ra_cons (re_slot (pv 0)) (ra_cons (re_op o_add re_int (re_user runF_len G_law_take (hr.mono (by decide)) (by rfl) m_law_take F_law_take.kp b_law_take (ra_cons (re_slot (pv 0)) (ra_cons re_int ra_nil)))) ra_nil))))
 (rs_one (rs_ret (re_dict (ps := [((eLit (.str "by")), (eSlot 1)), ((eLit (.str "off")), (eSlot 2)), ((eLit (.str "begin")), (eSlot 4)), ((eLit (.str "span")), (eSlot 5)), ((eLit (.str "things")), (eSlot 6)), ((eLit (.str "lands")), (eSlot 7))]) (pps_cons re_str (re_slot (pv 1)) (pps_cons re_str (re_slot (pv 2)) (pps_cons re_str (re_slot (pv 4)) (pps_cons re_str (re_slot (pv 5)) (pps_cons re_str (re_slot (pv 6)) (pps_cons re_str (re_slot (pv 7)) pps_nil)))))))))))))))
theorem sc_law_spot : FnScope ["_law_pen", "_law_world_here", "_law_by", "_law_w"] ["_law_pen", "_law_world_here"] (defScope s_law_spot) := ⟨rfl, rfl, rfl, by decide +kernel, rfl, by decide +kernel, by decide +kernel⟩
theorem ok_law_spot {f : Addr} {fd : FuncData} (T : Txt w K mg) (F : Fun K "_law_spot" "_law_spot" s_law_spot f fd) : FnOkG P w K mg base CX0 3 f fd ["_law_pen", "_law_world_here"] (spOf 2 c_law_spot K) := by
  obtain ⟨f_law_take, fd_law_take, m_law_take, F_law_take, b_law_take⟩ := T.f_law_take.ex
  have G_law_take := ok_law_take (P := P) (w := w) (base := base) T F_law_take
  obtain ⟨f_law_wide, fd_law_wide, m_law_wide, F_law_wide, b_law_wide⟩ := T.f_law_wide.ex
  have G_law_wide := ok_law_wide (P := P) (w := w) (base := base) T F_law_wide
  have nd := sc_law_spot.nd
  exact fn_data (k := 2) F sc_law_spot (by decide) fun cdv A outer s H E hr => (rs_cons (rs_set (i := 2) nd rfl (by first | exact Or.inl rfl | exact Or.inr rfl) (re_ix (o_ix hr.u65) (re_slot (pv 1)) re_str (fun _ _ => rfl)))
 (rs_one (rs_ret (re_callTy (c_tuple rfl) (by rfl) T.z_tuple (by decide +kernel) (ra_cons (re_lc rfl nd (ri_range1 (by rfl) T.z_range re_int) (blkOk_by (own := [("_law_w", 3)]) (by kernel_rfl)) (by decide) (fun _ _ _ _ _ => (rg_slot (pg_name (i := 3) nd rfl (by first | exact Or.inl rfl | exact Or.inr rfl)))) (fun _ _ _ _ _ => rts_yes) (fun _ _ _ _ _ => (re_op o_add (re_op o_add (re_op o_mulR (re_op o_sub (re_user runF_len G_law_take (hr.mono (by decide)) (by rfl) m_law_take F_law_take.kp b_law_take (ra_cons (re_slot (pv 0)) (ra_cons re_int ra_nil))) re_int) (re_slot (pv 2))) (re_user runF_len G_law_wide (hr.mono (by decide)) (by rfl) m_law_wide F_law_wide.kp b_law_wide (ra_cons (re_slot (pv 0)) (ra_cons (re_slot (pv 2)) ra_nil)))) (re_ix (o_ix hr.u65) (re_ix (o_ix hr.u65) (re_slot (pv 1)) re_str (fun _ _ => rfl)) (re_slot (pv 3)) (fun _ _ => rfl))))) ra_nil)))))
theorem sc_law_land : FnScope ["_law_pen", "_law_world_here", "_law_time", "_law_lands", "_law_by", "_law_outer", "_law_boxes_here", "_law_wobble", "_law_name"] ["_law_pen", "_law_world_here", "_law_time"] (defScope s_law_land) := ⟨rfl, rfl, rfl, by decide +kernel, rfl, by decide +kernel, by decide +kernel⟩
theorem ok_law_land {f : Addr} {fd : FuncData} (T : Txt w K mg) (F : Fun K "_law_land" "_law_land" s_law_land f fd) : FnOkG P w K mg base CX0 3 f fd ["_law_pen", "_law_world_here", "_law_time"] (spOf 3 c_law_land K) := by
  obtain ⟨f_law_take, fd_law_take, m_law_take, F_law_take, b_law_take⟩ := T.f_law_take.ex
  have G_law_take := ok_law_take (P := P) (w := w) (base := base) T F_law_take
  obtain ⟨f_law_boxes, fd_law_boxes, m_law_boxes, F_law_boxes, b_law_boxes⟩ := T.f_law_boxes.ex
  have G_law_boxes := ok_law_boxes (P := P) (w := w) (base := base) T F_law_boxes
  obtain ⟨f_law_stretched, fd_law_stretched, m_law_stretched, F_law_stretched, b_law_stretched⟩ := T.f_law_stretched.ex
  have G_law_stretched := ok_law_stretched (P := P) (w := w) (base := base) T F_law_stretched
  have nd := sc_law_land.nd
  exact fn_data (k := 2) F sc_law_land (by decide) fun cdv A outer s H E hr => (rs_cons (rs_set (i := 3) nd rfl (by first | exact Or.inl rfl | exact Or.inr rfl) (re_ix (o_ix hr.u65) (re_slot (pv 1)) re_str (fun _ _ => rfl)))
 (rs_cons (rs_set (i := 4) nd rfl (by first | exact Or.inl rfl | exact Or.inr rfl) (re_ix (o_ix hr.u65) (re_slot (pv 1)) re_str (fun _ _ => rfl)))
 (rs_cons (rs_set (i := 5) nd rfl (by first | exact Or.inl rfl | exact Or.inr rfl) (re_ix (o_ix hr.u65) (re_op o_add (re_repL (re_lst (ra_cons re_str ra_nil)) (re_callB c_len (by rfl) T.z_len (by decide +kernel) (ra_cons (re_slot (pv 3)) ra_nil))) (re_slot (pv 3))) (re_user runF_len G_law_take (hr.mono (by decide)) (by rfl) m_law_take F_law_take.kp b_law_take (ra_cons (re_slot (pv 0)) (ra_cons (re_op o_mulR re_int (re_callB c_len (by rfl) T.z_len (by decide +kernel) (ra_cons (re_slot (pv 3)) ra_nil))) ra_nil))) (fun _ _ => rfl)))
 (rs_cons (rs_set (i := 6) nd rfl (by first | exact Or.inl rfl | exact Or.inr rfl) (re_user runF_len G_law_boxes (hr.mono (by decide)) (by rfl) m_law_boxes F_law_boxes.kp b_law_boxes (ra_cons (re_slot (pv 0)) (ra_cons (re_ix (o_ix hr.u65) (re_lst (ra_cons re_int (ra_cons re_int (ra_cons re_int (ra_cons re_int ra_nil))))) (re_user runF_len G_law_take (hr.mono (by decide)) (by rfl) m_law_take F_law_take.kp b_law_take (ra_cons (re_slot (pv 0)) (ra_cons re_int ra_nil))) (fun _ _ => rfl)) ra_nil))))
 (rs_cons (rs_set (i := 7) nd rfl (by first | exact Or.inl rfl | exact Or.inr rfl) (re_op o_div (re_op o_mulR (re_ix (o_ix hr.u65) (re_lst (ra_cons re_int (ra_cons re_int (ra_cons re_int (ra_cons re_int (ra_cons re_int ra_nil)))))) (re_user runF_len G_law_take (hr.mono (by decide)) (by rfl) m_law_take F_law_take.kp b_law_take (ra_cons (re_slot (pv 0)) (ra_cons re_int ra_nil))) (fun _ _ => rfl)) (re_slot (pv 4))) (re_ix (o_ix hr.u65) (re_lst (ra_cons re_int (ra_cons re_int ra_nil))) (re_user runF_len G_law_take (hr.mono (by decide)) (by rfl) m_law_take F_law_take.kp b_law_take (ra_cons (re_slot (pv 0)) (ra_cons re_int ra_nil))) (fun _ _ => rfl))))
 (rs_cons (rs_set (i := 8) nd rfl (by first | exact Or.inl rfl | exact Or.inr rfl) (re_ix (o_ix hr.u65) (re_slot (pv 3)) (re_user runF_len G_law_take (hr.mono (by decide)) (by rfl) m_law_take F_law_take.kp b_law_take (ra_cons (re_slot (pv 0)) (ra_cons (re_callB c_len (by rfl) T.z_len (by decide +kernel) (ra_cons (re_slot (pv 3)) ra_nil)) ra_nil))) (fun _ _ => rfl)))
 (rs_one (rs_ret (re_tup (ra_cons re_str (ra_cons (re_slot (pv 2)) (ra_cons (re_slot (pv 8)) (ra_cons (re_slot (pv 5)) (ra_cons (re_user runF_len G_law_stretched (hr.mono (by decide)) (by rfl) m_law_stretched F_law_stretched.kp b_law_stretched (ra_cons (re_slot (pv 6)) (ra_cons (re_slot (pv 4)) (ra_cons (re_ix (o_ix hr.u65) (re_slot (pv 1)) re_str (fun _ _ => rfl)) ra_nil)))) (ra_cons (re_slot (pv 7)) ra_nil)))))))))))))))
theorem sc_law_telling : FnScope ["_law_pen", "_law_world_here", "_law_kind", "_law_time", "_law_thing"] ["_law_pen", "_law_world_here"] (defScope s_law_telling) := ⟨rfl, rfl, rfl, by decide +kernel, rfl, by decide +kernel, by decide +kernel⟩
theorem ok_law_telling {f : Addr} {fd : FuncData} (T : Txt w K mg) (F : Fun K "_law_telling" "_law_telling" s_law_telling f fd) : FnOkG P w K mg base CX0 4 f fd ["_law_pen", "_law_world_here"] (spOf 2 c_law_telling K) := by
  obtain ⟨f_law_take, fd_law_take, m_law_take, F_law_take, b_law_take⟩ := T.f_law_take.ex
  have G_law_take := ok_law_take (P := P) (w := w) (base := base) T F_law_take
  obtain ⟨f_law_land, fd_law_land, m_law_land, F_law_land, b_law_land⟩ := T.f_law_land.ex
  have G_law_land := ok_law_land (P := P) (w := w) (base := base) T F_law_land
  obtain ⟨f_law_spot, fd_law_spot, m_law_spot, F_law_spot, b_law_spot⟩ := T.f_law_spot.ex
  have G_law_spot := ok_law_spot (P := P) (w := w) (base := base) T F_law_spot
  have nd := sc_law_telling.nd
  exact fn_data (k := 3) F sc_law_telling (by decide) fun cdv A outer s H E hr => (rs_cons (rs_set (i := 2) nd rfl (by first | exact Or.inl rfl | exact Or.inr rfl) (re_user runF_len G_law_take (hr.mono (by decide)) (by rfl) m_law_take F_law_take.kp b_law_take (ra_cons (re_slot (pv 0)) (ra_cons re_int ra_nil))))
 (rs_cons (rs_set (i := 3) nd rfl (by first | exact Or.inl rfl | exact Or.inr rfl) (re_op o_add (re_ix (o_ix hr.u65) (re_slot (pv 1)) re_str (fun _ _ => rfl)) (re_user runF_len G_law_take (hr.mono (by decide)) (by rfl) m_law_take F_law_take.kp b_law_take (ra_cons (re_slot (pv 0)) (ra_cons (re_ix (o_ix hr.u65) (re_slot (pv 1)) re_str (fun _ _ => rfl)) ra_nil)))))
 (rs_cons (rs_set (i := 4) nd rfl (by first | exact Or.inl rfl | exact Or.inr rfl) (re_ix (o_ix hr.u65) (re_ix (o_ix hr.u65) (re_slot (pv 1)) re_str (fun _ _ => rfl)) (re_user runF_len G_law_take (hr.mono (by decide)) (by rfl) m_law_take F_law_take.kp b_law_take (ra_cons (re_slot (pv 0)) (ra_cons (re_callB c_len (by rfl) T.z_len (by decide +kernel) (ra_cons (re_ix (o_ix hr.u65) (re_slot (pv 1)) re_str (fun _ _ => rfl)) ra_nil)) ra_nil))) (fun _ _ => rfl)))
 (rs_cons (rs_if (rt_cmp o_lt (re_slot (pv 2)) re_int (nomark _))
 (rs_one (rs_ret (re_user runF_len G_law_land (hr.mono (by decide)) (by rfl) m_law_land F_law_land.kp b_law_land (ra_cons (re_slot (pv 0)) (ra_cons (re_slot (pv 1)) (ra_cons (re_slot (pv 3)) ra_nil))))))
 rs_nil)
 (rs_cons (rs_if (rt_cmp (o_eq hr.units) (re_slot (pv 2)) re_int (nomark _))
 (rs_one (rs_ret (re_tup (ra_cons re_str (ra_cons (re_slot (pv 3)) (ra_cons (re_ix (o_ix hr.u65) (re_ix (o_ix hr.u65) (re_slot (pv 1)) re_str (fun _ _ => rfl)) (re_user runF_len G_law_take (hr.mono (by decide)) (by rfl) m_law_take F_law_take.kp b_law_take (ra_cons (re_slot (pv 0)) (ra_cons (re_callB c_len (by rfl) T.z_len (by decide +kernel) (ra_cons (re_ix (o_ix hr.u65) (re_slot (pv 1)) re_str (fun _ _ => rfl)) ra_nil)) ra_nil))) (fun _ _ => rfl)) ra_nil))))))
 rs_nil)
 (rs_cons (rs_if (rt_cmp (o_eq hr.units) (re_slot (pv 2)) re_int (nomark _))
 (rs_one (rs_ret (re_tup (ra_cons re_str (ra_cons (re_slot (pv 3)) (ra_cons (re_slot (pv 4)) ra_nil))))))
 rs_nil)
 (rs_one (rs_ret (re_tup (ra_cons re_str (ra_cons (re_slot (pv 3)) (ra_cons (re_slot (pv 4)) (ra_cons (re_user runF_len G_law_spot (hr.mono (by decide)) (by rfl) m_law_spot F_law_spot.kp b_law_spot (ra_cons (re_slot (pv 0)) (ra_cons (re_slot (pv 1)) ra_nil))) ra_nil)))))))))))))
theorem sc_law_turned : FnScope ["_law_pen", "_law_some", "_law_found", "_law_one"] ["_law_pen", "_law_some"] (defScope s_law_turned) := ⟨rfl, rfl, rfl, by decide +kernel, rfl, by decide +kernel, by decide +kernel⟩
theorem ok_law_turned {f : Addr} {fd : FuncData} (T : Txt w K mg) (F : Fun K "_law_turned" "_law_turned" s_law_turned f fd) : FnOkG P w K mg base CX0 2 f fd ["_law_pen", "_law_some"] (spOf 2 c_law_turned K) := by
  obtain ⟨f_law_take, fd_law_take, m_law_take, F_law_take, b_law_take⟩ := T.f_law_take.ex
  have G_law_take := ok_law_take (P := P) (w := w) (base := base) T F_law_take
  have nd := sc_law_turned.nd
  exact fn_data (k := 1) F sc_law_turned (by decide) fun cdv A outer s H E hr => (rs_cons (rs_set (i := 2) nd rfl (by first | exact Or.inl rfl | exact Or.inr rfl) (re_lst ra_nil))
 (rs_cons (rs_for PassesOwn.never rfl (ri_any (re_slot (pv 1))) (rg_slot (pg_name (i := 3) nd rfl (by first | exact Or.inl rfl | exact Or.inr rfl)))
 (rs_one (rs_expr (re_ins (pv 2) (re_user runF_len G_law_take (hr.mono (by decide)) (by rfl) m_law_take F_law_take.kp b_law_take (ra_cons (re_slot (pv 0)) (ra_cons (re_op o_add (re_callB c_len (by rfl) T.z_len (by decide +kernel) (ra_cons (re_slot (pv 2)) ra_nil)) re_int) ra_nil))) (re_slot (pv 3))))))
 (rs_one (rs_ret (re_slot (pv 2))))))
theorem sc_law_near : FnScope ["_law_pen", "_law_world_here", "_law_telling_here", "_law_x", "_law_y", "_law_way"] ["_law_pen", "_law_world_here", "_law_telling_here"] (defScope s_law_near) := ⟨rfl, rfl, rfl, by decide +kernel, rfl, by decide +kernel, by decide +kernel⟩
theorem ok_law_near {f : Addr} {fd : FuncData} (T : Txt w K mg) (F : Fun K "_law_near" "_law_near" s_law_near f fd) : FnOkG P w K mg base CX0 4 f fd ["_law_pen", "_law_world_here", "_law_telling_here"] (spOf 3 c_law_near K) := by
  obtain ⟨f_law_land, fd_law_land, m_law_land, F_law_land, b_law_land⟩ := T.f_law_land.ex
  have G_law_land := ok_law_land (P := P) (w := w) (base := base) T F_law_land
  obtain ⟨f_law_take, fd_law_take, m_law_take, F_law_take, b_law_take⟩ := T.f_law_take.ex
  have G_law_take := ok_law_take (P := P) (w := w) (base := base) T F_law_take
  have nd := sc_law_near.nd
  exact fn_data (k := 3) F sc_law_near (by decide) fun cdv A outer s H E hr => (rs_cons (rs_if (rt_cmp (o_eq hr.units) (re_ix (o_ix hr.u65) (re_slot (pv 2)) re_int (fun _ _ => rfl)) re_str (nomark _))
 (rs_one (rs_ret (re_op o_add (re_op o_add (re_sl (re_user runF_len G_law_land (hr.mono (by decide)) (by rfl) m_law_land F_law_land.kp b_law_land (ra_cons (re_slot (pv 0)) (ra_cons (re_slot (pv 1)) (ra_cons (re_ix (o_ix hr.u65) (re_slot (pv 2)) re_int (fun _ _ => rfl)) ra_nil)))) ro_no (ro_sm re_int)) (re_tup (ra_cons (re_ix (o_ix hr.u65) (re_slot (pv 2)) re_int (fun _ _ => rfl)) ra_nil))) (re_sl (re_user runF_len G_law_land (hr.mono (by decide)) (by rfl) m_law_land F_law_land.kp b_law_land (ra_cons (re_slot (pv 0)) (ra_cons (re_slot (pv 1)) (ra_cons re_int ra_nil)))) (ro_sm re_int) ro_no))))
 rs_nil)
 (rs_cons (rs_if (rt_cmp (o_eq hr.units) (re_ix (o_ix hr.u65) (re_slot (pv 2)) re_int (fun _ _ => rfl)) re_str (nomark _))
 (rs_one (rs_ret (re_slot (pv 2))))
 rs_nil)
 (rs_cons (rs_if (rt_cmp (o_eq hr.units) (re_ix (o_ix hr.u65) (re_slot (pv 2)) re_int (fun _ _ => rfl)) re_str (nomark _))
 (rs_cons (rs_asg (re_ix (o_ix hr.u65) (re_slot (pv 2)) re_int (fun _ _ => rfl)) (rg_tup rfl (rgs_cons (rg_slot (pg_name (i := 3) nd rfl (by first | exact Or.inl rfl | exact Or.inr rfl))) (rgs_cons (rg_slot (pg_name (i := 4) nd rfl (by first | exact Or.inl rfl | exact Or.inr rfl))) rgs_nil))))
 (rs_one (rs_ret (re_op o_add (re_sl (re_slot (pv 2)) ro_no (ro_sm re_int)) (re_tup (ra_cons (re_tup (ra_cons (re_slot (pv 3)) (ra_cons (re_op o_add (re_slot (pv 4)) (re_ix (o_ix hr.u65) (re_lst (ra_cons re_int (ra_cons (re_un u_neg re_int) ra_nil))) (re_user runF_len G_law_take (hr.mono (by decide)) (by rfl) m_law_take F_law_take.kp b_law_take (ra_cons (re_slot (pv 0)) (ra_cons re_int ra_nil))) (fun _ _ => rfl))) ra_nil))) ra_nil))))))
 rs_nil)
 (rs_cons (rs_set (i := 5) nd rfl (by first | exact Or.inl rfl | exact Or.inr rfl) (re_user runF_len G_law_take (hr.mono (by decide)) (by rfl) m_law_take F_law_take.kp b_law_take (ra_cons (re_slot (pv 0)) (ra_cons re_int ra_nil))))
 (rs_cons (rs_if (rt_cmp (o_eq hr.units) (re_slot (pv 5)) re_int (nomark _))
 (rs_one (rs_ret (re_op o_add (re_tup (ra_cons re_str ra_nil)) (re_sl (re_slot (pv 2)) (ro_sm re_int) (ro_sm re_int)))))
 rs_nil)
 (rs_cons (rs_if (rt_cmp (o_eq hr.units) (re_slot (pv 5)) re_int (nomark _))
 (rs_one (rs_ret (re_op o_add (re_sl (re_slot (pv 2)) ro_no (ro_sm re_int)) (re_tup (ra_cons (re_op o_add (re_ix (o_ix hr.u65) (re_slot (pv 2)) re_int (fun _ _ => rfl)) re_int) ra_nil)))))
 rs_nil)
 (rs_cons (rs_if (rt_cmp (o_eq hr.units) (re_slot (pv 5)) re_int (nomark _))
 (rs_one (rs_ret (re_op o_add (re_op o_add (re_sl (re_slot (pv 2)) ro_no (ro_sm re_int)) (re_tup (ra_cons (re_op o_add (re_ix (o_ix hr.u65) (re_slot (pv 2)) re_int (fun _ _ => rfl)) (re_sl (re_ix (o_ix hr.u65) (re_slot (pv 2)) re_int (fun _ _ => rfl)) (ro_sm (re_un u_neg re_int)) ro_no)) ra_nil))) (re_sl (re_slot (pv 2)) (ro_sm re_int) ro_no))))
 rs_nil)
 (rs_one (rs_ret (re_op o_add (re_sl (re_slot (pv 2)) ro_no (ro_sm re_int)) (re_sl (re_user runF_len G_law_land (hr.mono (by decide)) (by rfl) m_law_land F_law_land.kp b_law_land (ra_cons (re_slot (pv 0)) (ra_cons (re_slot (pv 1)) (ra_cons re_int ra_nil)))) (ro_sm re_int) ro_no)))))))))))
theorem sc_law_drawn : FnScope ["_law_pen", "_law_world_here", "_law_many", "_law_found", "_law_k", "_law_kind", "_law_one"] ["_law_pen", "_law_world_here"] (defScope s_law_drawn) := ⟨rfl, rfl, rfl, by decide +kernel, rfl, by decide +kernel, by decide +kernel⟩
theorem ok_law_drawn {f : Addr} {fd : FuncData} (T : Txt w K mg) (F : Fun K "_law_drawn" "_law_drawn" s_law_drawn f fd) : FnOkG P w K mg base CX0 5 f fd ["_law_pen", "_law_world_here"] (spOf 2 c_law_drawn K) := by
  obtain ⟨f_law_take, fd_law_take, m_law_take, F_law_take, b_law_take⟩ := T.f_law_take.ex
  have G_law_take := ok_law_take (P := P) (w := w) (base := base) T F_law_take
  obtain ⟨f_law_telling, fd_law_telling, m_law_telling, F_law_telling, b_law_telling⟩ := T.f_law_telling.ex
  have G_law_telling := ok_law_telling (P := P) (w := w) (base := base) T F_law_telling
  obtain ⟨f_law_near, fd_law_near, m_law_near, F_law_near, b_law_near⟩ := T.f_law_near.ex
  have G_law_near := ok_law_near (P := P) (w := w) (base := base) T F_law_near
  have nd := sc_law_drawn.nd
  exact fn_data (k := 4) F sc_law_drawn (by decide) fun cdv A outer s H E hr => (rs_cons (rs_set (i := 2) nd rfl (by first | exact Or.inl rfl | exact Or.inr rfl) (re_user runF_len G_law_take (hr.mono (by decide)) (by rfl) m_law_take F_law_take.kp b_law_take (ra_cons (re_slot (pv 0)) (ra_cons re_int ra_nil))))
 (rs_cons (rs_if (rt_cmp (o_eq hr.units) (re_user runF_len G_law_take (hr.mono (by decide)) (by rfl) m_law_take F_law_take.kp b_law_take (ra_cons (re_slot (pv 0)) (ra_cons re_int ra_nil))) re_int (nomark _))
 (rs_one (rs_set (i := 2) nd rfl (by first | exact Or.inl rfl | exact Or.inr rfl) re_int))
 rs_nil)
 (rs_cons (rs_set (i := 3) nd rfl (by first | exact Or.inl rfl | exact Or.inr rfl) (re_lst ra_nil))
 (rs_cons (rs_for PassesOwn.never rfl (ri_range1 (by rfl) T.z_range (re_slot (pv 2))) (rg_slot (pg_name (i := 4) nd rfl (by first | exact Or.inl rfl | exact Or.inr rfl)))
 (rs_cons (rs_set (i := 5) nd rfl (by first | exact Or.inl rfl | exact Or.inr rfl) (re_user runF_len G_law_take (hr.mono (by decide)) (by rfl) m_law_take F_law_take.kp b_law_take (ra_cons (re_slot (pv 0)) (ra_cons re_int ra_nil))))
 (rs_cons (rs_expr (re_app (pv 3) (re_user runF_len G_law_telling (hr.mono (by decide)) (by rfl) m_law_telling F_law_telling.kp b_law_telling (ra_cons (re_slot (pv 0)) (ra_cons (re_slot (pv 1)) ra_nil)))))
 (rs_cons (rs_if (PW.pt (rw_and (rt_cmp (o_eq hr.units) (re_slot (pv 5)) re_int (nomark _)) (rw_and1 (rt_cmp o_gt (re_slot (pv 4)) re_int (nomark _)))))
 (rs_one (rs_setIx (pv 3) (re_slot (pv 4)) (re_ix (o_ix hr.u65) (re_slot (pv 3)) (re_user runF_len G_law_take (hr.mono (by decide)) (by rfl) m_law_take F_law_take.kp b_law_take (ra_cons (re_slot (pv 0)) (ra_cons (re_slot (pv 4)) ra_nil))) (fun _ _ => rfl))))
 rs_nil)
 (rs_one (rs_if (PW.pt (rw_and (rt_cmp (o_eq hr.units) (re_slot (pv 5)) re_int (nomark _)) (rw_and1 (rt_cmp o_gt (re_slot (pv 4)) re_int (nomark _)))))
 (rs_one (rs_setIx (pv 3) (re_slot (pv 4)) (re_user runF_len G_law_near (hr.mono (by decide)) (by rfl) m_law_near F_law_near.kp b_law_near (ra_cons (re_slot (pv 0)) (ra_cons (re_slot (pv 1)) (ra_cons (re_ix (o_ix hr.u65) (re_slot (pv 3)) (re_user runF_len G_law_take (hr.mono (by decide)) (by rfl) m_law_take F_law_take.kp b_law_take (ra_cons (re_slot (pv 0)) (ra_cons (re_slot (pv 4)) ra_nil))) (fun _ _ => rfl)) ra_nil))))))
 rs_nil))))))
 (rs_one (rs_ret (re_lc rfl nd (ri_any (re_slot (pv 3))) (blkOk_by (own := [("_law_one", 6)]) (by kernel_rfl)) (by decide) (fun _ _ _ _ _ => (rg_slot (pg_name (i := 6) nd rfl (by first | exact Or.inl rfl | exact Or.inr rfl)))) (fun _ _ _ _ _ => (rts_one (PW.pt (rw_or (rt_cmp (o_ne hr.units) (re_ix (o_ix hr.u65) (re_slot (pv 6)) re_int (fun _ _ => rfl)) re_str (nomark _)) (rw_or1 (rt_cmp o_lt (re_callB c_len (by rfl) T.z_len (by decide +kernel) (ra_cons (re_ix (o_ix hr.u65) (re_slot (pv 6)) re_int (fun _ _ => rfl)) ra_nil)) re_int (nomark _))))))) (fun _ _ _ _ _ => (re_slot (pv 6))))))))))
theorem sc_law_goes_ahead : FnScope ["_law_one", "_law_other", "_law_ranks", "_law_mine", "_law_his"] ["_law_one", "_law_other"] (defScope s_law_goes_ahead) := ⟨rfl, rfl, rfl, by decide +kernel, rfl, by decide +kernel, by decide +kernel⟩
theorem ok_law_goes_ahead {f : Addr} {fd : FuncData} (T : Txt w K mg) (F : Fun K "_law_goes_ahead" "_law_goes_ahead" s_law_goes_ahead f fd) : FnOkG P w K mg base CX0 1 f fd ["_law_one", "_law_other"] (spOf 2 c_law_goes_ahead K) := by
  have nd := sc_law_goes_ahead.nd
  exact fn_data (k := 0) F sc_law_goes_ahead (by decide) fun cdv A outer s H E hr => (rs_cons (rs_set (i := 2) nd rfl (by first | exact Or.inl rfl | exact Or.inr rfl) (re_dict (ps := [((eLit (.str "land")), (eLit (.int 0))), ((eLit (.str "drop")), (eLit (.int 0))), ((eLit (.str "free")), (eLit (.int 1))), ((eLit (.str "spot")), (eLit (.int 2)))]) (pps_cons re_str re_int (pps_cons re_str re_int (pps_cons re_str re_int (pps_cons re_str re_int pps_nil))))))
 (rs_cons (rs_set (i := 3) nd rfl (by first | exact Or.inl rfl | exact Or.inr rfl) (re_tup (ra_cons (re_ix (o_ix hr.u65) (re_slot (pv 0)) re_int (fun _ _ => rfl)) (ra_cons (re_ix (o_ix hr.u65) (re_slot (pv 2)) (re_ix (o_ix hr.u65) (re_slot (pv 0)) re_int (fun _ _ => rfl)) (fun _ _ => rfl)) (ra_cons (re_ix (o_ix hr.u65) (re_slot (pv 0)) re_int (fun _ _ => rfl)) ra_nil)))))
 (rs_cons (rs_set (i := 4) nd rfl (by first | exact Or.inl rfl | exact Or.inr rfl) (re_tup (ra_cons (re_ix (o_ix hr.u65) (re_slot (pv 1)) re_int (fun _ _ => rfl)) (ra_cons (re_ix (o_ix hr.u65) (re_slot (pv 2)) (re_ix (o_ix hr.u65) (re_slot (pv 1)) re_int (fun _ _ => rfl)) (fun _ _ => rfl)) (ra_cons (re_ix (o_ix hr.u65) (re_slot (pv 1)) re_int (fun _ _ => rfl)) ra_nil)))))
 (rs_cons (rs_if (rt_cmp (o_ne hr.units) (re_slot (pv 3)) (re_slot (pv 4)) (nomark _))
 (rs_one (rs_ret (re_cmp (o_ltA hr) (re_slot (pv 3)) (re_slot (pv 4)) (nomark _))))
 rs_nil)
 (rs_cons (rs_if (rt_cmp (o_ne hr.units) (re_ix (o_ix hr.u65) (re_slot (pv 0)) re_int (fun _ _ => rfl)) (re_ix (o_ix hr.u65) (re_slot (pv 1)) re_int (fun _ _ => rfl)) (nomark _))
 (rs_one (rs_ret (re_cmp (o_eq hr.units) (re_ix (o_ix hr.u65) (re_slot (pv 0)) re_int (fun _ _ => rfl)) re_str (nomark _))))
 rs_nil)
 (rs_one (rs_ret (re_cmp (o_ltA hr) (re_sl (re_slot (pv 0)) (ro_sm re_int) ro_no) (re_sl (re_slot (pv 1)) (ro_sm re_int) ro_no) (nomark _)))))))))
theorem sc_law_due : FnScope ["_law_tellings", "_law_ranks", "_law_row", "_law_one", "_law_at", "_law_found", "_law_here"] ["_law_tellings"] (defScope s_law_due) := ⟨rfl, rfl, rfl, by decide +kernel, rfl, by decide +kernel, by decide +kernel⟩
theorem ok_law_due {f : Addr} {fd : FuncData} (T : Txt w K mg) (F : Fun K "_law_due" "_law_due" s_law_due f fd) : FnOkG P w K mg base CX0 2 f fd ["_law_tellings"] (spOf 1 c_law_due K) := by
  obtain ⟨f_law_goes_ahead, fd_law_goes_ahead, m_law_goes_ahead, F_law_goes_ahead, b_law_goes_ahead⟩ := T.f_law_goes_ahead.ex
  have G_law_goes_ahead := ok_law_goes_ahead (P := P) (w := w) (base := base) T F_law_goes_ahead
  have nd := sc_law_due.nd
  exact fn_data (k := 1) F sc_law_due (by decide) fun cdv A outer s H E hr => (rs_cons (rs_set (i := 1) nd rfl (by first | exact Or.inl rfl | exact Or.inr rfl) (re_dict (ps := [((eLit (.str "land")), (eLit (.int 0))), ((eLit (.str "drop")), (eLit (.int 0))), ((eLit (.str "free")), (eLit (.int 1))), ((eLit (.str "spot")), (eLit (.int 2)))]) (pps_cons re_str re_int (pps_cons re_str re_int (pps_cons re_str re_int (pps_cons re_str re_int pps_nil))))))
 (rs_cons (rs_set (i := 2) nd rfl (by first | exact Or.inl rfl | exact Or.inr rfl) (re_lst ra_nil))
 (rs_cons (rs_for PassesOwn.never rfl (ri_any (re_slot (pv 0))) (rg_slot (pg_name (i := 3) nd rfl (by first | exact Or.inl rfl | exact Or.inr rfl)))
 (rs_cons (rs_set (i := 4) nd rfl (by first | exact Or.inl rfl | exact Or.inr rfl) re_int)
 (rs_cons (rs_while (n := wN) PassesOwn.never (PW.pt (rw_and (rt_cmp o_lt (re_slot (pv 4)) (re_callB c_len (by rfl) T.z_len (by decide +kernel) (ra_cons (re_slot (pv 2)) ra_nil)) (nomark _)) (rw_and1 (rt_val (re_user runF_len G_law_goes_ahead (hr.mono (by decide)) (by rfl) m_law_goes_ahead F_law_goes_ahead.kp b_law_goes_ahead (ra_cons (re_ix (o_ix hr.u65) (re_slot (pv 2)) (re_slot (pv 4)) (fun _ _ => rfl)) (ra_cons (re_slot (pv 3)) ra_nil)))))))
 (rs_one (rs_set (i := 4) nd rfl (by first | exact Or.inl rfl | exact Or.inr rfl) (re_op o_add (re_slot (pv 4)) re_int))))
 (rs_one (rs_expr (re_ins (pv 2) (re_slot (pv 4)) (re_slot (pv 3))))))))
 (rs_cons (rs_set (i := 5) nd rfl (by first | exact Or.inl rfl | exact Or.inr rfl) (re_lst ra_nil))
 (rs_cons (rs_for PassesOwn.never rfl (ri_any (re_slot (pv 2))) (rg_slot (pg_name (i := 3) nd rfl (by first | exact Or.inl rfl | exact Or.inr rfl)))
 (rs_cons (rs_set (i := 6) nd rfl (by first | exact Or.inl rfl | exact Or.inr rfl) (re_tup (ra_cons (re_ix (o_ix hr.u65) (re_slot (pv 3)) re_int (fun _ _ => rfl)) (ra_cons (re_ix (o_ix hr.u65) (re_slot (pv 1)) (re_ix (o_ix hr.u65) (re_slot (pv 3)) re_int (fun _ _ => rfl)) (fun _ _ => rfl)) (ra_cons (re_ix (o_ix hr.u65) (re_slot (pv 3)) re_int (fun _ _ => rfl)) ra_nil)))))
 (rs_one (rs_if (PW.pt (rw_or (rt_cmp (o_eqL hr.units) (re_slot (pv 5)) (re_lst ra_nil) (nomark _)) (rw_or1 (rt_cmp (o_ne hr.units) (re_tup (ra_cons (re_ix (o_ix hr.u65) (re_ix (o_ix hr.u65) (re_slot (pv 5)) (re_un u_neg re_int) (fun _ _ => rfl)) re_int (fun _ _ => rfl)) (ra_cons (re_ix (o_ix hr.u65) (re_slot (pv 1)) (re_ix (o_ix hr.u65) (re_ix (o_ix hr.u65) (re_slot (pv 5)) (re_un u_neg re_int) (fun _ _ => rfl)) re_int (fun _ _ => rfl)) (fun _ _ => rfl)) (ra_cons (re_ix (o_ix hr.u65) (re_ix (o_ix hr.u65) (re_slot (pv 5)) (re_un u_neg re_int) (fun _ _ => rfl)) re_int (fun _ _ => rfl)) ra_nil)))) (re_slot (pv 6)) (nomark _)))))
 (rs_one (rs_expr (re_app (pv 5) (re_slot (pv 3)))))
 rs_nil))))
 (rs_one (rs_ret (re_slot (pv 5)))))))))
theorem sc_law : FnScope ["_law_script", "_law_pen", "_law_world_here", "_law_tellings", "_law_due_here", "_law_others", "_law_handed", "_law_kept", "_law_again", "_law_found"] ["_law_script"] (defScope s_law) := ⟨rfl, rfl, rfl, by decide +kernel, rfl, by decide +kernel, by decide +kernel⟩
theorem ok_law {f : Addr} {fd : FuncData} (T : Txt w K mg) (F : Fun K "law" "law" s_law f fd) : FnOkG P w K mg base CX0 6 f fd ["_law_script"] (spOf 1 c_law K) := by
  obtain ⟨f_law_world, fd_law_world, m_law_world, F_law_world, b_law_world⟩ := T.f_law_world.ex
  have G_law_world := ok_law_world (P := P) (w := w) (base := base) T F_law_world
  obtain ⟨f_law_drawn, fd_law_drawn, m_law_drawn, F_law_drawn, b_law_drawn⟩ := T.f_law_drawn.ex
  have G_law_drawn := ok_law_drawn (P := P) (w := w) (base := base) T F_law_drawn
  obtain ⟨f_law_due, fd_law_due, m_law_due, F_law_due, b_law_due⟩ := T.f_law_due.ex
  have G_law_due := ok_law_due (P := P) (w := w) (base := base) T F_law_due
  obtain ⟨f_law_take, fd_law_take, m_law_take, F_law_take, b_law_take⟩ := T.f_law_take.ex
  have G_law_take := ok_law_take (P := P) (w := w) (base := base) T F_law_take
  obtain ⟨f_law_turned, fd_law_turned, m_law_turned, F_law_turned, b_law_turned⟩ := T.f_law_turned.ex
  have G_law_turned := ok_law_turned (P := P) (w := w) (base := base) T F_law_turned
  obtain ⟨f_in_order, fd_in_order, m_in_order, F_in_order, b_in_order⟩ := T.f_in_order.ex
  have G_in_order := ok_in_order (P := P) (w := w) (base := base) T F_in_order
  obtain ⟨f_law_same, fd_law_same, m_law_same, F_law_same, b_law_same⟩ := T.f_law_same.ex
  have G_law_same := ok_law_same (P := P) (w := w) (base := base) T F_law_same
  have nd := sc_law.nd
  exact fn_data (k := 5) F sc_law (by decide) fun cdv A outer s H E hr => (rs_cons (rs_set (i := 1) nd rfl (by first | exact Or.inl rfl | exact Or.inr rfl) (re_lst (ra_cons (re_slot (pv 0)) (ra_cons re_int (ra_cons re_int ra_nil)))))
 (rs_cons (rs_set (i := 2) nd rfl (by first | exact Or.inl rfl | exact Or.inr rfl) (re_user runF_len G_law_world (hr.mono (by decide)) (by rfl) m_law_world F_law_world.kp b_law_world (ra_cons (re_slot (pv 1)) ra_nil)))
 (rs_cons (rs_set (i := 3) nd rfl (by first | exact Or.inl rfl | exact Or.inr rfl) (re_user runF_len G_law_drawn (hr.mono (by decide)) (by rfl) m_law_drawn F_law_drawn.kp b_law_drawn (ra_cons (re_slot (pv 1)) (ra_cons (re_slot (pv 2)) ra_nil))))
 (rs_cons (rs_set (i := 4) nd rfl (by first | exact Or.inl rfl | exact Or.inr rfl) (re_user runF_len G_law_due (hr.mono (by decide)) (by rfl) m_law_due F_law_due.kp b_law_due (ra_cons (re_slot (pv 3)) ra_nil)))
 (rs_cons (rs_set (i := 5) nd rfl (by first | exact Or.inl rfl | exact Or.inr rfl) (re_user runF_len G_law_turned (hr.mono (by decide)) (by rfl) m_law_turned F_law_turned.kp b_law_turned (ra_cons (re_slot (pv 1)) (ra_cons (re_sl (re_op o_add (re_slot (pv 3)) (re_sl (re_slot (pv 3)) ro_no (ro_sm (re_user runF_len G_law_take (hr.mono (by decide)) (by rfl) m_law_take F_law_take.kp b_law_take (ra_cons (re_slot (pv 1)) (ra_cons re_int ra_nil)))))) ro_no (ro_sm re_int)) ra_nil))))
 (rs_cons (rs_for PassesOwn.never rfl (ri_any (re_lst (ra_cons (re_slot (pv 3)) (ra_cons (re_slot (pv 5)) (ra_cons (re_slot (pv 4)) (ra_cons (re_rev (re_slot (pv 4))) ra_nil)))))) (rg_slot (pg_name (i := 6) nd rfl (by first | exact Or.inl rfl | exact Or.inr rfl)))
 (rs_cons (rs_set (i := 7) nd rfl (by first | exact Or.inl rfl | exact Or.inr rfl) (re_callB (c_repr hr) (by rfl) T.z_repr (by decide +kernel) (ra_cons (re_slot (pv 6)) ra_nil)))
 (rs_one (rs_for PassesOwn.never rfl (ri_range1 (by rfl) T.z_range re_int) (rg_slot (pg_name (i := 8) nd rfl (by first | exact Or.inl rfl | exact Or.inr rfl)))
 (rs_cons (rs_set (i := 9) nd rfl (by first | exact Or.inl rfl | exact Or.inr rfl) (re_user runF_len G_in_order (hr.mono (by decide)) (by rfl) m_in_order F_in_order.kp b_in_order (ra_cons (re_slot (pv 6)) ra_nil)))
 (rs_cons (rs_if (PW.pt (rw_or (rt_not (rt_val (re_user runF_len G_law_same (hr.mono (by decide)) (by rfl) m_law_same F_law_same.kp b_law_same (ra_cons (re_slot (pv 9)) (ra_cons (re_slot (pv 4)) ra_nil))))) (rw_or1 (rt_cmp (o_ne hr.units) (re_callB (c_repr hr) (by rfl) T.z_repr (by decide +kernel) (ra_cons (re_slot (pv 6)) ra_nil)) (re_slot (pv 7)) (nomark _)))))
 (rs_one (rs_ret re_bl))
 rs_nil)
 (rs_cons (rs_expr (re_rvs (pv 9)))
 (rs_one (rs_expr (re_app (pv 9) re_non))))))))))
 (rs_one (rs_ret (re_cmp (o_eqL hr.units) (re_user runF_len G_in_order (hr.mono (by decide)) (by rfl) m_in_order F_in_order.kp b_in_order (ra_cons (re_lst ra_nil) ra_nil)) (re_lst ra_nil) (nomark _))))))))))
end
end G_k19

namespace G_k19
open PySem PySem.Spec PyProof.Rows L2 L3
theorem ints_rp {K : PySem.W.Frag} {F : Hp} : ∀ ns : List Int, RpAll K F (ns.map V.int) (ns.map PyData.int)
  | [] => .nil
  | n :: ns => .cons (.int n) (ints_rp ns)
theorem law_sp (main : ∀ ns : List Int, ns.length ≤ 63 → ∃ bs, c_law [.fz (.list (ns.map PyData.int))] = some (bs, .fz (.bool true))) (K : PySem.W.Frag) (H : Hp) (a : Addr) (ns : List Int) (hl : ns.length ≤ 63) (hS : SqL K H a (ns.map V.int)) :
    spOf 1 c_law K [.ref a] H (fun v _ => v = .bl true) fun _ _ _ => False := by
  obtain ⟨bs, e⟩ := main ns hl
  refine ⟨H, [.fz (.list (ns.map PyData.int))], rfl, rfl, ⟨Same.refl _, rfl, fun i x q => ?_, fun i j b ⟨x, d, h, g, _⟩ => ?_⟩, bs, _, e, fun v F' H' _ _ ok _ => ?_⟩
  · cases i with
    | zero =>
      cases q
      exact ⟨.ref a, rfl, .lst hS (ints_rp ns)⟩
    | succ i => simp at q
  · cases i with
    | zero =>
      cases h
      cases g
    | succ i => simp at h
  · cases (show Rp K F' v (.bool true) from ok)
    rfl
set_option maxHeartbeats 0 in
theorem all_mk {l : PySem.W.OpenLaw} {w : World} {K : PySem.W.Frag} {h : Heap} {mg : Str → Option Value} {fa : Addr} (X : K.In h) (G : h.Ns mainGlobals mg) (hfa : mg "law" = some (.ref fa))
    {f1 : Addr} {od1 an1 : Option Addr} {sl1 : Array (Option Value)} {oc1 kV1 dc1 pm1 cd1 ct1 : Value}
    {f2 : Addr} {od2 an2 : Option Addr} {sl2 : Array (Option Value)} {oc2 kV2 dc2 pm2 cd2 ct2 : Value}
    {f3 : Addr} {od3 an3 : Option Addr} {sl3 : Array (Option Value)} {oc3 kV3 dc3 pm3 cd3 ct3 : Value}
    {f4 : Addr} {od4 an4 : Option Addr} {sl4 : Array (Option Value)} {oc4 kV4 dc4 pm4 cd4 ct4 : Value}
    {f5 : Addr} {od5 an5 : Option Addr} {sl5 : Array (Option Value)} {oc5 kV5 dc5 pm5 cd5 ct5 : Value}
    {f6 : Addr} {od6 an6 : Option Addr} {sl6 : Array (Option Value)} {oc6 kV6 dc6 pm6 cd6 ct6 : Value}
    {f7 : Addr} {od7 an7 : Option Addr} {sl7 : Array (Option Value)} {oc7 kV7 dc7 pm7 cd7 ct7 : Value}
    {f8 : Addr} {od8 an8 : Option Addr} {sl8 : Array (Option Value)} {oc8 kV8 dc8 pm8 cd8 ct8 : Value}
    {f9 : Addr} {od9 an9 : Option Addr} {sl9 : Array (Option Value)} {oc9 kV9 dc9 pm9 cd9 ct9 : Value}
    {f10 : Addr} {od10 an10 : Option Addr} {sl10 : Array (Option Value)} {oc10 kV10 dc10 pm10 cd10 ct10 : Value}
    {f11 : Addr} {od11 an11 : Option Addr} {sl11 : Array (Option Value)} {oc11 kV11 dc11 pm11 cd11 ct11 : Value}
    {f12 : Addr} {od12 an12 : Option Addr} {sl12 : Array (Option Value)} {oc12 kV12 dc12 pm12 cd12 ct12 : Value}
    {f13 : Addr} {od13 an13 : Option Addr} {sl13 : Array (Option Value)} {oc13 kV13 dc13 pm13 cd13 ct13 : Value}
    {f14 : Addr} {od14 an14 : Option Addr} {sl14 : Array (Option Value)} {oc14 kV14 dc14 pm14 cd14 ct14 : Value}
    {f15 : Addr} {od15 an15 : Option Addr} {sl15 : Array (Option Value)} {oc15 kV15 dc15 pm15 cd15 ct15 : Value}
    {f16 : Addr} {od16 an16 : Option Addr} {sl16 : Array (Option Value)} {oc16 kV16 dc16 pm16 cd16 ct16 : Value}
    {f17 : Addr} {od17 an17 : Option Addr} {sl17 : Array (Option Value)} {oc17 kV17 dc17 pm17 cd17 ct17 : Value}
    {f18 : Addr} {od18 an18 : Option Addr} {sl18 : Array (Option Value)} {oc18 kV18 dc18 pm18 cd18 ct18 : Value}
    {f19 : Addr} {od19 an19 : Option Addr} {sl19 : Array (Option Value)} {oc19 kV19 dc19 pm19 cd19 ct19 : Value}
    {d_PARTS : Addr} {es_PARTS : Array DictEntry} {n_PARTS : Nat}
    (a1 : PySem.W.nsIn K mainGlobals "place_of" = some (some (.ref f1))) (l1 : K.lookup f1 = some ⟨oc1, od1, .func (PySem.W.fnOf "place_of" "place_of" (defArgs s_place_of) (defBody s_place_of) (defScope s_place_of) .none kV1 dc1 pm1 an1 cd1 ct1), sl1⟩) (c1 : PySem.W.codeIn K cd1 "place_of" = true) (k1 : PySem.W.keepIn K (.ref f1) = true)
    (a2 : PySem.W.nsIn K mainGlobals "in_order" = some (some (.ref f2))) (l2 : K.lookup f2 = some ⟨oc2, od2, .func (PySem.W.fnOf "in_order" "in_order" (defArgs s_in_order) (defBody s_in_order) (defScope s_in_order) .none kV2 dc2 pm2 an2 cd2 ct2), sl2⟩) (c2 : PySem.W.codeIn K cd2 "in_order" = true) (k2 : PySem.W.keepIn K (.ref f2) = true)
    (a3 : PySem.W.nsIn K mainGlobals "_law_take" = some (some (.ref f3))) (l3 : K.lookup f3 = some ⟨oc3, od3, .func (PySem.W.fnOf "_law_take" "_law_take" (defArgs s_law_take) (defBody s_law_take) (defScope s_law_take) .none kV3 dc3 pm3 an3 cd3 ct3), sl3⟩) (c3 : PySem.W.codeIn K cd3 "_law_take" = true) (k3 : PySem.W.keepIn K (.ref f3) = true)
    (a4 : PySem.W.nsIn K mainGlobals "_law_wide" = some (some (.ref f4))) (l4 : K.lookup f4 = some ⟨oc4, od4, .func (PySem.W.fnOf "_law_wide" "_law_wide" (defArgs s_law_wide) (defBody s_law_wide) (defScope s_law_wide) .none kV4 dc4 pm4 an4 cd4 ct4), sl4⟩) (c4 : PySem.W.codeIn K cd4 "_law_wide" = true) (k4 : PySem.W.keepIn K (.ref f4) = true)
    (a5 : PySem.W.nsIn K mainGlobals "_law_same" = some (some (.ref f5))) (l5 : K.lookup f5 = some ⟨oc5, od5, .func (PySem.W.fnOf "_law_same" "_law_same" (defArgs s_law_same) (defBody s_law_same) (defScope s_law_same) .none kV5 dc5 pm5 an5 cd5 ct5), sl5⟩) (c5 : PySem.W.codeIn K cd5 "_law_same" = true) (k5 : PySem.W.keepIn K (.ref f5) = true)
    (a6 : PySem.W.nsIn K mainGlobals "_law_boxes" = some (some (.ref f6))) (l6 : K.lookup f6 = some ⟨oc6, od6, .func (PySem.W.fnOf "_law_boxes" "_law_boxes" (defArgs s_law_boxes) (defBody s_law_boxes) (defScope s_law_boxes) .none kV6 dc6 pm6 an6 cd6 ct6), sl6⟩) (c6 : PySem.W.codeIn K cd6 "_law_boxes" = true) (k6 : PySem.W.keepIn K (.ref f6) = true)
    (a7 : PySem.W.nsIn K mainGlobals "_law_stretched" = some (some (.ref f7))) (l7 : K.lookup f7 = some ⟨oc7, od7, .func (PySem.W.fnOf "_law_stretched" "_law_stretched" (defArgs s_law_stretched) (defBody s_law_stretched) (defScope s_law_stretched) .none kV7 dc7 pm7 an7 cd7 ct7), sl7⟩) (c7 : PySem.W.codeIn K cd7 "_law_stretched" = true) (k7 : PySem.W.keepIn K (.ref f7) = true)
    (a8 : PySem.W.nsIn K mainGlobals "_law_stretch" = some (some (.ref f8))) (l8 : K.lookup f8 = some ⟨oc8, od8, .func (PySem.W.fnOf "_law_stretch" "_law_stretch" (defArgs s_law_stretch) (defBody s_law_stretch) (defScope s_law_stretch) .none kV8 dc8 pm8 an8 cd8 ct8), sl8⟩) (c8 : PySem.W.codeIn K cd8 "_law_stretch" = true) (k8 : PySem.W.keepIn K (.ref f8) = true)
    (a9 : PySem.W.nsIn K mainGlobals "_law_names" = some (some (.ref f9))) (l9 : K.lookup f9 = some ⟨oc9, od9, .func (PySem.W.fnOf "_law_names" "_law_names" (defArgs s_law_names) (defBody s_law_names) (defScope s_law_names) .none kV9 dc9 pm9 an9 cd9 ct9), sl9⟩) (c9 : PySem.W.codeIn K cd9 "_law_names" = true) (k9 : PySem.W.keepIn K (.ref f9) = true)
    (a10 : PySem.W.nsIn K mainGlobals "_law_world" = some (some (.ref f10))) (l10 : K.lookup f10 = some ⟨oc10, od10, .func (PySem.W.fnOf "_law_world" "_law_world" (defArgs s_law_world) (defBody s_law_world) (defScope s_law_world) .none kV10 dc10 pm10 an10 cd10 ct10), sl10⟩) (c10 : PySem.W.codeIn K cd10 "_law_world" = true) (k10 : PySem.W.keepIn K (.ref f10) = true)
    (a11 : PySem.W.nsIn K mainGlobals "_law_spot" = some (some (.ref f11))) (l11 : K.lookup f11 = some ⟨oc11, od11, .func (PySem.W.fnOf "_law_spot" "_law_spot" (defArgs s_law_spot) (defBody s_law_spot) (defScope s_law_spot) .none kV11 dc11 pm11 an11 cd11 ct11), sl11⟩) (c11 : PySem.W.codeIn K cd11 "_law_spot" = true) (k11 : PySem.W.keepIn K (.ref f11) = true)
    (a12 : PySem.W.nsIn K mainGlobals "_law_land" = some (some (.ref f12))) (l12 : K.lookup f12 = some ⟨oc12, od12, .func (PySem.W.fnOf "_law_land" "_law_land" (defArgs s_law_land) (defBody s_law_land) (defScope s_law_land) .none kV12 dc12 pm12 an12 cd12 ct12), sl12⟩) (c12 : PySem.W.codeIn K cd12 "_law_land" = true) (k12 : PySem.W.keepIn K (.ref f12) = true)
    (a13 : PySem.W.nsIn K mainGlobals "_law_telling" = some (some (.ref f13))) (l13 : K.lookup f13 = some ⟨oc13, od13, .func (PySem.W.fnOf "_law_telling" "_law_telling" (defArgs s_law_telling) (defBody s_law_telling) (defScope s_law_telling) .none kV13 dc13 pm13 an13 cd13 ct13), sl13⟩) (c13 : PySem.W.codeIn K cd13 "_law_telling" = true) (k13 : PySem.W.keepIn K (.ref f13) = true)
    (a14 : PySem.W.nsIn K mainGlobals "_law_turned" = some (some (.ref f14))) (l14 : K.lookup f14 = some ⟨oc14, od14, .func (PySem.W.fnOf "_law_turned" "_law_turned" (defArgs s_law_turned) (defBody s_law_turned) (defScope s_law_turned) .none kV14 dc14 pm14 an14 cd14 ct14), sl14⟩) (c14 : PySem.W.codeIn K cd14 "_law_turned" = true) (k14 : PySem.W.keepIn K (.ref f14) = true)
    (a15 : PySem.W.nsIn K mainGlobals "_law_near" = some (some (.ref f15))) (l15 : K.lookup f15 = some ⟨oc15, od15, .func (PySem.W.fnOf "_law_near" "_law_near" (defArgs s_law_near) (defBody s_law_near) (defScope s_law_near) .none kV15 dc15 pm15 an15 cd15 ct15), sl15⟩) (c15 : PySem.W.codeIn K cd15 "_law_near" = true) (k15 : PySem.W.keepIn K (.ref f15) = true)
    (a16 : PySem.W.nsIn K mainGlobals "_law_drawn" = some (some (.ref f16))) (l16 : K.lookup f16 = some ⟨oc16, od16, .func (PySem.W.fnOf "_law_drawn" "_law_drawn" (defArgs s_law_drawn) (defBody s_law_drawn) (defScope s_law_drawn) .none kV16 dc16 pm16 an16 cd16 ct16), sl16⟩) (c16 : PySem.W.codeIn K cd16 "_law_drawn" = true) (k16 : PySem.W.keepIn K (.ref f16) = true)
    (a17 : PySem.W.nsIn K mainGlobals "_law_goes_ahead" = some (some (.ref f17))) (l17 : K.lookup f17 = some ⟨oc17, od17, .func (PySem.W.fnOf "_law_goes_ahead" "_law_goes_ahead" (defArgs s_law_goes_ahead) (defBody s_law_goes_ahead) (defScope s_law_goes_ahead) .none kV17 dc17 pm17 an17 cd17 ct17), sl17⟩) (c17 : PySem.W.codeIn K cd17 "_law_goes_ahead" = true) (k17 : PySem.W.keepIn K (.ref f17) = true)
    (a18 : PySem.W.nsIn K mainGlobals "_law_due" = some (some (.ref f18))) (l18 : K.lookup f18 = some ⟨oc18, od18, .func (PySem.W.fnOf "_law_due" "_law_due" (defArgs s_law_due) (defBody s_law_due) (defScope s_law_due) .none kV18 dc18 pm18 an18 cd18 ct18), sl18⟩) (c18 : PySem.W.codeIn K cd18 "_law_due" = true) (k18 : PySem.W.keepIn K (.ref f18) = true)
    (a19 : PySem.W.nsIn K mainGlobals "law" = some (some (.ref f19))) (l19 : K.lookup f19 = some ⟨oc19, od19, .func (PySem.W.fnOf "law" "law" (defArgs s_law) (defBody s_law) (defScope s_law) .none kV19 dc19 pm19 an19 cd19 ct19), sl19⟩) (c19 : PySem.W.codeIn K cd19 "law" = true) (k19 : PySem.W.keepIn K (.ref f19) = true)
    (z_sorted : PySem.W.nsIn K mainGlobals "sorted" = some none)
    (z_len : PySem.W.nsIn K mainGlobals "len" = some none)
    (z_abs : PySem.W.nsIn K mainGlobals "abs" = some none)
    (z_range : PySem.W.nsIn K mainGlobals "range" = some none)
    (z_str : PySem.W.nsIn K mainGlobals "str" = some none)
    (z_repr : PySem.W.nsIn K mainGlobals "repr" = some none)
    (z_tuple : PySem.W.nsIn K mainGlobals "tuple" = some none)
    (dg_PARTS : PySem.W.nsIn K mainGlobals "PARTS" = some (some (.ref d_PARTS))) (dl_PARTS : K.lookup d_PARTS = some ⟨.type "dict", none, .dict es_PARTS n_PARTS, #[]⟩) (dk_PARTS : PySem.W.KeysLit w.params es_PARTS.toList) (do_PARTS : (d_PARTS == sysModules) = false) (dv_PARTS : es_PARTS.toList.map entV = ([("land", 0), ("drop", 0), ("free", 1), ("spot", 2)] : List (Str × Int)).map some)
    : ∃ fd : FuncData, (∀ (s : Shared) (u : Value), BindsTo s fd ⟨[u], []⟩ [("_law_script", u)]) ∧ ∀ base : Heap, K.In base → base.Ns mainGlobals mg → FnOkG l.prog w K mg base CX0 6 fa fd ["_law_script"] (spOf 1 c_law K) := by
  have e := hfa.symm.trans (PySem.W.mg_of X G a19)
  cases e
  have F1 := fun_mk (st := s_place_of) l1 c1 k1
  have b1 := F1.binds (ps := ["telling"]) fun _ _ _ _ _ _ us hl => match us, hl with | [_], _ => rfl
  have F2 := fun_mk (st := s_in_order) l2 c2 k2
  have b2 := F2.binds (ps := ["tellings"]) fun _ _ _ _ _ _ us hl => match us, hl with | [_], _ => rfl
  have F3 := fun_mk (st := s_law_take) l3 c3 k3
  have b3 := F3.binds (ps := ["_law_pen", "_law_many"]) fun _ _ _ _ _ _ us hl => match us, hl with | [_, _], _ => rfl
  have F4 := fun_mk (st := s_law_wide) l4 c4 k4
  have b4 := F4.binds (ps := ["_law_pen", "_law_many"]) fun _ _ _ _ _ _ us hl => match us, hl with | [_, _], _ => rfl
  have F5 := fun_mk (st := s_law_same) l5 c5 k5
  have b5 := F5.binds (ps := ["_law_found", "_law_due_here"]) fun _ _ _ _ _ _ us hl => match us, hl with | [_, _], _ => rfl
  have F6 := fun_mk (st := s_law_boxes) l6 c6 k6
  have b6 := F6.binds (ps := ["_law_pen", "_law_most"]) fun _ _ _ _ _ _ us hl => match us, hl with | [_, _], _ => rfl
  have F7 := fun_mk (st := s_law_stretched) l7 c7 k7
  have b7 := F7.binds (ps := ["_law_boxes_here", "_law_by", "_law_off"]) fun _ _ _ _ _ _ us hl => match us, hl with | [_, _, _], _ => rfl
  have F8 := fun_mk (st := s_law_stretch) l8 c8 k8
  have b8 := F8.binds (ps := ["_law_pen"]) fun _ _ _ _ _ _ us hl => match us, hl with | [_], _ => rfl
  have F9 := fun_mk (st := s_law_names) l9 c9 k9
  have b9 := F9.binds (ps := ["_law_pen", "_law_many"]) fun _ _ _ _ _ _ us hl => match us, hl with | [_, _], _ => rfl
  have F10 := fun_mk (st := s_law_world) l10 c10 k10
  have b10 := F10.binds (ps := ["_law_pen"]) fun _ _ _ _ _ _ us hl => match us, hl with | [_], _ => rfl
  have F11 := fun_mk (st := s_law_spot) l11 c11 k11
  have b11 := F11.binds (ps := ["_law_pen", "_law_world_here"]) fun _ _ _ _ _ _ us hl => match us, hl with | [_, _], _ => rfl
  have F12 := fun_mk (st := s_law_land) l12 c12 k12
  have b12 := F12.binds (ps := ["_law_pen", "_law_world_here", "_law_time"]) fun _ _ _ _ _ _ us hl => match us, hl with | [_, _, _], _ => rfl
  have F13 := fun_mk (st := s_law_telling) l13 c13 k13
  have b13 := F13.binds (ps := ["_law_pen", "_law_world_here"]) fun _ _ _ _ _ _ us hl => match us, hl with | [_, _], _ => rfl
  have F14 := fun_mk (st := s_law_turned) l14 c14 k14
  have b14 := F14.binds (ps := ["_law_pen", "_law_some"]) fun _ _ _ _ _ _ us hl => match us, hl with | [_, _], _ => rfl
  have F15 := fun_mk (st := s_law_near) l15 c15 k15
  have b15 := F15.binds (ps := ["_law_pen", "_law_world_here", "_law_telling_here"]) fun _ _ _ _ _ _ us hl => match us, hl with | [_, _, _], _ => rfl
  have F16 := fun_mk (st := s_law_drawn) l16 c16 k16
  have b16 := F16.binds (ps := ["_law_pen", "_law_world_here"]) fun _ _ _ _ _ _ us hl => match us, hl with | [_, _], _ => rfl
  have F17 := fun_mk (st := s_law_goes_ahead) l17 c17 k17
  have b17 := F17.binds (ps := ["_law_one", "_law_other"]) fun _ _ _ _ _ _ us hl => match us, hl with | [_, _], _ => rfl
  have F18 := fun_mk (st := s_law_due) l18 c18 k18
  have b18 := F18.binds (ps := ["_law_tellings"]) fun _ _ _ _ _ _ us hl => match us, hl with | [_], _ => rfl
  have F19 := fun_mk (st := s_law) l19 c19 k19
  have b19 := F19.binds (ps := ["_law_script"]) fun _ _ _ _ _ _ us hl => match us, hl with | [_], _ => rfl
  have T : Txt w K mg := {
    z_sorted := PySem.W.mg_none_of X G z_sorted,
    z_len := PySem.W.mg_none_of X G z_len,
    z_abs := PySem.W.mg_none_of X G z_abs,
    z_range := PySem.W.mg_none_of X G z_range,
    z_str := PySem.W.mg_none_of X G z_str,
    z_repr := PySem.W.mg_none_of X G z_repr,
    z_tuple := PySem.W.mg_none_of X G z_tuple,
    d_PARTS := ⟨_, PySem.W.mg_of X G dg_PARTS, ⟨_, _, ⟨dl_PARTS, dk_PARTS, do_PARTS⟩, dv_PARTS⟩⟩,
    f_place_of := ⟨_, _, PySem.W.mg_of X G a1, F1, b1⟩,
    f_in_order := ⟨_, _, PySem.W.mg_of X G a2, F2, b2⟩,
    f_law_take := ⟨_, _, PySem.W.mg_of X G a3, F3, b3⟩,
    f_law_wide := ⟨_, _, PySem.W.mg_of X G a4, F4, b4⟩,
    f_law_same := ⟨_, _, PySem.W.mg_of X G a5, F5, b5⟩,
    f_law_boxes := ⟨_, _, PySem.W.mg_of X G a6, F6, b6⟩,
    f_law_stretched := ⟨_, _, PySem.W.mg_of X G a7, F7, b7⟩,
    f_law_stretch := ⟨_, _, PySem.W.mg_of X G a8, F8, b8⟩,
    f_law_names := ⟨_, _, PySem.W.mg_of X G a9, F9, b9⟩,
    f_law_world := ⟨_, _, PySem.W.mg_of X G a10, F10, b10⟩,
    f_law_spot := ⟨_, _, PySem.W.mg_of X G a11, F11, b11⟩,
    f_law_land := ⟨_, _, PySem.W.mg_of X G a12, F12, b12⟩,
    f_law_telling := ⟨_, _, PySem.W.mg_of X G a13, F13, b13⟩,
    f_law_turned := ⟨_, _, PySem.W.mg_of X G a14, F14, b14⟩,
    f_law_near := ⟨_, _, PySem.W.mg_of X G a15, F15, b15⟩,
    f_law_drawn := ⟨_, _, PySem.W.mg_of X G a16, F16, b16⟩,
    f_law_goes_ahead := ⟨_, _, PySem.W.mg_of X G a17, F17, b17⟩,
    f_law_due := ⟨_, _, PySem.W.mg_of X G a18, F18, b18⟩,
    f_law := ⟨_, _, PySem.W.mg_of X G a19, F19, b19⟩ }
  exact ⟨_, fun s v => .of_eq rfl, fun base _ _ => ok_law T F19⟩
end G_k19
open PySem PySem.W PyProof.Rows
set_option maxRecDepth 100000 in
set_option maxHeartbeats 0 in
theorem PySem.Challenge.cw_landsentered_k19_which_count_in_order_holds : PySem.Challenge.rw_landsentered_k19_which_count_in_order.Holds := by
  w_on; o_law; k_head; (case hw => w_witness2)
  k_fill
  refine L3.walk_G (l := PySem.Challenge.rw_landsentered_k19_which_count_in_order) (n := 63) (k := 6) (x := "_law_script") (sp := fun K => L3.spOf 1 G_k19.c_law K) rfl (by decide) rfl ⟨rfl, by decide, by decide⟩ (fun w h Y => PySem.W.kIn_of Y) ?F (fun K H a ns hl _ hS => G_k19.law_sp G_k19.main K H a ns hl hS)
  case F =>
    intro w mg fa h KX G hmg
    refine' G_k19.all_mk KX G hmg ?a1 ?l1 ?c1 ?k1 ?a2 ?l2 ?c2 ?k2 ?a3 ?l3 ?c3 ?k3 ?a4 ?l4 ?c4 ?k4 ?a5 ?l5 ?c5 ?k5 ?a6 ?l6 ?c6 ?k6 ?a7 ?l7 ?c7 ?k7 ?a8 ?l8 ?c8 ?k8 ?a9 ?l9 ?c9 ?k9 ?a10 ?l10 ?c10 ?k10 ?a11 ?l11 ?c11 ?k11 ?a12 ?l12 ?c12 ?k12 ?a13 ?l13 ?c13 ?k13 ?a14 ?l14 ?c14 ?k14 ?a15 ?l15 ?c15 ?k15 ?a16 ?l16 ?c16 ?k16 ?a17 ?l17 ?c17 ?k17 ?a18 ?l18 ?c18 ?k18 ?a19 ?l19 ?c19 ?k19 ?z_sorted ?z_len ?z_abs ?z_range ?z_str ?z_repr ?z_tuple ?dg_PARTS ?dl_PARTS ?dk_PARTS ?do_PARTS ?dv_PARTS
    (case a1 => k_is)
    (case l1 => k_is)
    (case c1 => k_is)
    (case k1 => k_is)
    (case a2 => k_is)
    (case l2 => k_is)
    (case c2 => k_is)
    (case k2 => k_is)
    (case a3 => k_is)
    (case l3 => k_is)
    (case c3 => k_is)
    (case k3 => k_is)
    (case a4 => k_is)
    (case l4 => k_is)
    (case c4 => k_is)
    (case k4 => k_is)
    (case a5 => k_is)
    (case l5 => k_is)
    (case c5 => k_is)
    (case k5 => k_is)
    (case a6 => k_is)
    (case l6 => k_is)
    (case c6 => k_is)
    (case k6 => k_is)
    (case a7 => k_is)
    (case l7 => k_is)
    (case c7 => k_is)
    (case k7 => k_is)
    (case a8 => k_is)
    (case l8 => k_is)
    (case c8 => k_is)
    (case k8 => k_is)
    (case a9 => k_is)
    (case l9 => k_is)
    (case c9 => k_is)
    (case k9 => k_is)
    (case a10 => k_is)
    (case l10 => k_is)
    (case c10 => k_is)
    (case k10 => k_is)
    (case a11 => k_is)
    (case l11 => k_is)
    (case c11 => k_is)
    (case k11 => k_is)
    (case a12 => k_is)
    (case l12 => k_is)
    (case c12 => k_is)
    (case k12 => k_is)
    (case a13 => k_is)
    (case l13 => k_is)
    (case c13 => k_is)
    (case k13 => k_is)
    (case a14 => k_is)
    (case l14 => k_is)
    (case c14 => k_is)
    (case k14 => k_is)
    (case a15 => k_is)
    (case l15 => k_is)
    (case c15 => k_is)
    (case k15 => k_is)
    (case a16 => k_is)
    (case l16 => k_is)
    (case c16 => k_is)
    (case k16 => k_is)
    (case a17 => k_is)
    (case l17 => k_is)
    (case c17 => k_is)
    (case k17 => k_is)
    (case a18 => k_is)
    (case l18 => k_is)
    (case c18 => k_is)
    (case k18 => k_is)
    (case a19 => k_is)
    (case l19 => k_is)
    (case c19 => k_is)
    (case k19 => k_is)
    (case z_sorted => k_is)
    (case z_len => k_is)
    (case z_abs => k_is)
    (case z_range => k_is)
    (case z_str => k_is)
    (case z_repr => k_is)
    (case z_tuple => k_is)
    (case dg_PARTS => k_is)
    (case dl_PARTS => k_is)
    (case dk_PARTS => k_keys)
    (case do_PARTS => decide)
    (case dv_PARTS => first | k_is | rfl | decide +kernel)
