import PyProof.Rows.All
import Wide.All
import OpenK.AllK
import Wide.FinOn
import HandS.ForMost
import HandS.Exc
import HandS.TryOnly
import HandS.ExcInit
import HandS.CallSlots
import HandS.Walk
import HandS.Defaults
import HandS.Lambda
import HandS.Style
import KE.GoesEnum
import KE.GoesMore
import HandS.HeadHook1
import HandS.HeadHook2
import KE.KExcInit
import HandS.Small
import HandS.TupAny
import HandS.TupMul
import HandS.TupLe
import HandS.Wide
import HandS.Deep
import HandS.IsInst
import HandS.Dict
import HandS.SortInts
import HandS.RaiseMore
import HandS.Text
import HandS.Codes
import HandS.CallLocal
import HandS.Ends
import HandS.EndBits
import HandS.HeadEnd
import HandS.Words
import HandS.Head0
import HandS.Head1
import HandS.Head2
import PyProof.StrBlockL
import PyProof.Rows.RegStrFacts
import HandS.TryMany
import HandS.HeadHook4
import HandS.EndTab
import KE.KNestM
import KE.KExcStr
import KE.KExcIs
import HandS.ExcValue
import PySem.Challenge.RW_alwayswhole_k99_errors_by_hand
import Lean
import KE.KStateDown
set_option Elab.async false
set_option linter.all false
set_option maxRecDepth 100000
set_option maxHeartbeats 1000000
namespace Mi
open PySem PySem.Spec PyProof.Rows L2
abbrev St := L2.St

/-! ### values as data -/
inductive D where
  | non | bl (b : Bool) | int (i : Int) | str (x : Str) | tup (xs : List D) | ref (n : Nat) | gl (x : Str) | ty (n : String) | exc (n : Nat) (c f : Str) (v : D) | lam (n : Nat) | exv (c f : Str) (v : D) (m : Str)
inductive Ob where
  | lst (xs : List D) | fro (xs : List D) | dic (kvs : List (Key × D))
structure Exn where
  c : Str
  f : Str
  v : D
abbrev Hd := List Ob
abbrev En := List (Option D)
inductive Res (A : Type) where
  | ok (a : A) (h : Hd) | ex (e : Exn) (h : Hd) | no
@[simp] def Res.bind {A B : Type} (r : Res A) (f : A → Hd → Res B) : Res B := match r with
  | .ok a h => f a h
  | .ex e h => .ex e h
  | .no => .no
def Stable : HO → Prop
  | .tup _ => True
  | .xd _ => True
  | .frz _ _ => True
  | .ext _ => True
  | _ => False
structure Ext (α : List Addr) (H : Hp) (α' : List Addr) (H' : Hp) : Prop where
  pre : ∃ β, α' = α ++ β
  st : ∀ a o, H a = some o → Stable o → H' a = some o
theorem Ext.refl {α : List Addr} {H : Hp} : Ext α H α H := ⟨⟨[], by simp⟩, fun _ _ h _ => h⟩
theorem Ext.trans {α α1 α2 : List Addr} {H H1 H2 : Hp} (a : Ext α H α1 H1) (b : Ext α1 H1 α2 H2) : Ext α H α2 H2 := by
  obtain ⟨β, e⟩ := a.pre
  obtain ⟨γ, e'⟩ := b.pre
  exact ⟨⟨β ++ γ, by rw [e', e, List.append_assoc]⟩, fun x o h s => b.st x o (a.st x o h s) s⟩
theorem Ext.get {α α' : List Addr} {H H' : Hp} (e : Ext α H α' H') {n : Nat} {a : Addr} (h : α[n]? = some a) : α'[n]? = some a := by
  obtain ⟨β, e⟩ := e.pre
  rw [e, List.getElem?_append_left (List.getElem?_eq_some_iff.mp h).1]
  exact h
structure Rx where
  K : PySem.W.Frag
  mg : Str → Option Value
  xa : Nat → Option (Addr × Value × Addr)
  la : Nat → Option Addr
  T : List (Addr × Str)
  kept : List Addr → Hp → Prop
  mono : ∀ {α α' : List Addr} {H H' : Hp}, Ext α H α' H' → kept α H → kept α' H'
/-- an exception object that was made, not raised: its class, its dict, its text -/
def ExV (cls : Value) (a d t : Addr) : HO := .ext fun h => ∃ (oe : Obj) (vs : Array Value), h.get? a = some oe ∧ oe.cls = cls ∧ oe.dict = some d ∧ oe.data = .fields vs ∧ vs[0]? = some (.ref t) ∧ vs[1]? = some .none

mutual
def RelD (R : Rx) (α : List Addr) (H : Hp) : D → V → Prop
  | .non, v => v = .non
  | .bl b, v => v = .bl b
  | .int i, v => v = .int i
  | .str x, v => v = .str x
  | .tup xs, v => ∃ a vs, v = .ref a ∧ SqT R.K H a vs ∧ RelDs R α H xs vs
  | .ref n, v => ∃ a, α[n]? = some a ∧ v = .ref a
  | .gl x, v => ∃ a, R.mg x = some (.ref a) ∧ v = .ref a
  | .ty n, v => v = .ty n
  | .exc n c f d, v => ∀ a cls dd, R.xa n = some (a, cls, dd) → v = .ref a ∧ ∃ C v', R.mg c = some (.ref C) ∧ cls = .ref C ∧ H dd = some (.xd [(f, v')]) ∧ RelD R α H d v'
  | .lam _, _ => False
  | .exv c f d m, v => ∃ a dd t C v', v = .ref a ∧ R.mg c = some (.ref C) ∧ H a = some (ExV (.ref C) a dd t) ∧ H t = some (.tup [.str m]) ∧ H dd = some (.xd [(f, v')]) ∧ RelD R α H d v'
def RelDs (R : Rx) (α : List Addr) (H : Hp) : List D → List V → Prop
  | [], vs => vs = []
  | x :: xs, vs => ∃ v r, vs = v :: r ∧ RelD R α H x v ∧ RelDs R α H xs r
end
def RelKs (R : Rx) (α : List Addr) (H : Hp) : List (Key × D) → List (Key × V) → Prop
  | [], vs => vs = []
  | (k, x) :: xs, vs => ∃ v r, vs = (k, v) :: r ∧ RelD R α H x v ∧ RelKs R α H xs r
theorem Ext.sqT {K : PySem.W.Frag} {α α' : List Addr} {H H' : Hp} (e : Ext α H α' H') {a : Addr} {vs : List V} (h : SqT K H a vs) : SqT K H' a vs := by
  rcases h with (h | ⟨o, h⟩) | h
  · exact .inl (.inl (e.st _ _ h trivial))
  · exact .inl (.inr ⟨o, e.st _ _ h trivial⟩)
  · exact .inr h
section
variable {R : Rx} {α α' : List Addr} {H H' : Hp}
mutual
theorem RelD.ext (e : Ext α H α' H') : ∀ (d : D) (v : V), RelD R α H d v → RelD R α' H' d v
  | .non, _, h => h
  | .bl _, _, h => h
  | .int _, _, h => h
  | .str _, _, h => h
  | .tup xs, v, h => by
    unfold RelD at h ⊢
    obtain ⟨a, vs, h1, h2, h3⟩ := h
    exact ⟨a, vs, h1, e.sqT h2, RelDs.ext e xs vs h3⟩
  | .ref n, v, h => by
    unfold RelD at h ⊢
    obtain ⟨a, h1, h2⟩ := h
    exact ⟨a, e.get h1, h2⟩
  | .gl _, _, h => h
  | .ty _, _, h => h
  | .exc n c f d, v, h => by
    unfold RelD at h ⊢
    intro a cls dd hx
    obtain ⟨h1, C, v', h2, h3, h4, h5⟩ := h a cls dd hx
    exact ⟨h1, C, v', h2, h3, e.st _ _ h4 trivial, RelD.ext e d v' h5⟩
  | .lam _, _, h => by
    unfold RelD at h
    exact h.elim
  | .exv c f d m, v, h => by
    unfold RelD at h ⊢
    obtain ⟨a, dd, t, C, v', h1, h2, h3, h6, h4, h5⟩ := h
    exact ⟨a, dd, t, C, v', h1, h2, e.st _ _ h3 trivial, e.st _ _ h6 trivial, e.st _ _ h4 trivial, RelD.ext e d v' h5⟩
theorem RelDs.ext (e : Ext α H α' H') : ∀ (ds : List D) (vs : List V), RelDs R α H ds vs → RelDs R α' H' ds vs
  | [], _, h => h
  | x :: xs, vs, h => by
    unfold RelDs at h ⊢
    obtain ⟨v, r, h1, h2, h3⟩ := h
    exact ⟨v, r, h1, RelD.ext e x v h2, RelDs.ext e xs r h3⟩
end
theorem RelKs.ext (e : Ext α H α' H') : ∀ (ds : List (Key × D)) (vs : List (Key × V)), RelKs R α H ds vs → RelKs R α' H' ds vs
  | [], _, h => h
  | (k, x) :: xs, vs, h => by
    unfold RelKs at h ⊢
    obtain ⟨v, r, h1, h2, h3⟩ := h
    exact ⟨v, r, h1, RelD.ext e x v h2, RelKs.ext e xs r h3⟩
end
/-! ### lists of related things -/
section
variable {R : Rx} {α : List Addr} {H : Hp}
theorem RelDs.nil : RelDs R α H [] [] := by unfold RelDs; rfl
theorem RelDs.cons {x : D} {xs : List D} {v : V} {vs : List V} (h : RelD R α H x v) (t : RelDs R α H xs vs) : RelDs R α H (x :: xs) (v :: vs) := by
  unfold RelDs; exact ⟨v, vs, rfl, h, t⟩
theorem RelDs.nil_inv {vs : List V} (h : RelDs R α H [] vs) : vs = [] := by unfold RelDs at h; exact h
theorem RelDs.cons_inv {x : D} {xs : List D} {vs : List V} (h : RelDs R α H (x :: xs) vs) : ∃ v r, vs = v :: r ∧ RelD R α H x v ∧ RelDs R α H xs r := by unfold RelDs at h; exact h
theorem RelDs.length : ∀ {ds : List D} {vs : List V}, RelDs R α H ds vs → ds.length = vs.length
  | [], _, h => by rw [h.nil_inv]; rfl
  | x :: xs, vs, h => by
    obtain ⟨v, r, e, _, t⟩ := h.cons_inv
    rw [e, List.length_cons, List.length_cons, t.length]
theorem RelDs.get : ∀ {ds : List D} {vs : List V} {i : Nat} {d : D}, RelDs R α H ds vs → ds[i]? = some d → ∃ v, vs[i]? = some v ∧ RelD R α H d v
  | [], _, _, _, _, e => by simp at e
  | x :: xs, vs, 0, d, h, e => by
    obtain ⟨v, r, e1, h1, _⟩ := h.cons_inv
    simp at e; subst e
    exact ⟨v, by rw [e1]; rfl, h1⟩
  | x :: xs, vs, i + 1, d, h, e => by
    obtain ⟨v, r, e1, _, t⟩ := h.cons_inv
    obtain ⟨u, h1, h2⟩ := t.get (i := i) (d := d) (by simpa using e)
    exact ⟨u, by rw [e1]; simpa using h1, h2⟩
theorem RelDs.append : ∀ {xs ys : List D} {vs ws : List V}, RelDs R α H xs vs → RelDs R α H ys ws → RelDs R α H (xs ++ ys) (vs ++ ws)
  | [], _, _, _, h, h' => by rw [h.nil_inv]; exact h'
  | x :: xs, ys, vs, ws, h, h' => by
    obtain ⟨v, r, e, h1, t⟩ := h.cons_inv
    rw [e]
    exact .cons h1 (t.append h')
theorem RelDs.set : ∀ {xs : List D} {vs : List V} {d : D} {v : V} (i : Nat), RelDs R α H xs vs → RelD R α H d v → RelDs R α H (xs.set i d) (vs.set i v)
  | [], _, _, _, _, h, _ => by rw [h.nil_inv]; exact .nil
  | x :: xs, vs, d, v, 0, h, hd => by
    obtain ⟨u, r, e, h1, t⟩ := h.cons_inv
    rw [e]
    exact .cons hd t
  | x :: xs, vs, d, v, i + 1, h, hd => by
    obtain ⟨u, r, e, h1, t⟩ := h.cons_inv
    rw [e]
    exact .cons h1 (t.set i hd)
theorem RelDs.take : ∀ {xs : List D} {vs : List V} (n : Nat), RelDs R α H xs vs → RelDs R α H (xs.take n) (vs.take n)
  | _, _, 0, _ => by simp; exact .nil
  | [], _, n + 1, h => by rw [h.nil_inv]; exact .nil
  | x :: xs, vs, n + 1, h => by
    obtain ⟨u, r, e, h1, t⟩ := h.cons_inv
    rw [e]
    exact .cons h1 (t.take n)
theorem RelDs.drop : ∀ {xs : List D} {vs : List V} (n : Nat), RelDs R α H xs vs → RelDs R α H (xs.drop n) (vs.drop n)
  | _, _, 0, h => h
  | [], _, n + 1, h => by rw [h.nil_inv]; exact .nil
  | x :: xs, vs, n + 1, h => by
    obtain ⟨u, r, e, h1, t⟩ := h.cons_inv
    rw [e]
    exact t.drop n
theorem RelDs.reverse : ∀ {xs : List D} {vs : List V}, RelDs R α H xs vs → RelDs R α H xs.reverse vs.reverse
  | [], _, h => by rw [h.nil_inv]; exact .nil
  | x :: xs, vs, h => by
    obtain ⟨u, r, e, h1, t⟩ := h.cons_inv
    rw [e, List.reverse_cons, List.reverse_cons]
    exact t.reverse.append (.cons h1 .nil)
theorem RelDs.eraseIdx : ∀ {xs : List D} {vs : List V} (i : Nat), RelDs R α H xs vs → RelDs R α H (xs.eraseIdx i) (vs.eraseIdx i)
  | [], _, _, h => by rw [h.nil_inv]; exact .nil
  | x :: xs, vs, 0, h => by
    obtain ⟨u, r, e, h1, t⟩ := h.cons_inv
    rw [e]
    exact t
  | x :: xs, vs, i + 1, h => by
    obtain ⟨u, r, e, h1, t⟩ := h.cons_inv
    rw [e]
    exact .cons h1 (t.eraseIdx i)
theorem RelDs.rep {xs : List D} {vs : List V} (h : RelDs R α H xs vs) : ∀ k : Nat, RelDs R α H (List.replicate k xs).flatten (List.replicate k vs).flatten
  | 0 => .nil
  | k + 1 => by
    rw [List.replicate_succ, List.replicate_succ, List.flatten_cons, List.flatten_cons]
    exact h.append (h.rep k)
theorem RelDs.one {d : D} {vs : List V} (h : RelDs R α H [d] vs) : ∃ v, vs = [v] ∧ RelD R α H d v := by
  obtain ⟨v, r, e, h1, t⟩ := h.cons_inv
  rw [t.nil_inv] at e
  exact ⟨v, e, h1⟩
theorem RelDs.two {d d' : D} {vs : List V} (h : RelDs R α H [d, d'] vs) : ∃ v v', vs = [v, v'] ∧ RelD R α H d v ∧ RelD R α H d' v' := by
  obtain ⟨v, r, e, h1, t⟩ := h.cons_inv
  obtain ⟨v', e', h2⟩ := t.one
  rw [e'] at e
  exact ⟨v, v', e, h1, h2⟩
theorem RelD.int_inv {i : Int} {v : V} (h : RelD R α H (.int i) v) : v = .int i := by unfold RelD at h; exact h
theorem RelD.bl_inv {i : Bool} {v : V} (h : RelD R α H (.bl i) v) : v = .bl i := by unfold RelD at h; exact h
theorem RelD.non_inv {v : V} (h : RelD R α H .non v) : v = .non := by unfold RelD at h; exact h
theorem RelD.str_inv {x : Str} {v : V} (h : RelD R α H (.str x) v) : v = .str x := by unfold RelD at h; exact h
theorem RelD.ty_inv {x : String} {v : V} (h : RelD R α H (.ty x) v) : v = .ty x := by unfold RelD at h; exact h
theorem RelD.tup_inv {xs : List D} {v : V} (h : RelD R α H (.tup xs) v) : ∃ a vs, v = .ref a ∧ SqT R.K H a vs ∧ RelDs R α H xs vs := by unfold RelD at h; exact h
theorem RelD.ref_inv {n : Nat} {v : V} (h : RelD R α H (.ref n) v) : ∃ a, α[n]? = some a ∧ v = .ref a := by unfold RelD at h; exact h
theorem RelD.gl_inv {x : Str} {v : V} (h : RelD R α H (.gl x) v) : ∃ a, R.mg x = some (.ref a) ∧ v = .ref a := by unfold RelD at h; exact h
theorem RelD.int {i : Int} : RelD R α H (.int i) (.int i) := by unfold RelD; rfl
theorem RelD.bl {i : Bool} : RelD R α H (.bl i) (.bl i) := by unfold RelD; rfl
theorem RelD.non : RelD R α H .non .non := by unfold RelD; rfl
theorem RelD.str {x : Str} : RelD R α H (.str x) (.str x) := by unfold RelD; rfl
theorem RelD.ty {x : String} : RelD R α H (.ty x) (.ty x) := by unfold RelD; rfl
theorem RelD.tup {xs : List D} {a : Addr} {vs : List V} (h : SqT R.K H a vs) (t : RelDs R α H xs vs) : RelD R α H (.tup xs) (.ref a) := by unfold RelD; exact ⟨a, vs, rfl, h, t⟩
theorem RelD.ref {n : Nat} {a : Addr} (h : α[n]? = some a) : RelD R α H (.ref n) (.ref a) := by unfold RelD; exact ⟨a, h, rfl⟩
theorem RelD.gl {x : Str} {a : Addr} (h : R.mg x = some (.ref a)) : RelD R α H (.gl x) (.ref a) := by unfold RelD; exact ⟨a, h, rfl⟩
end

/-! ### the heap -/
def RelO (R : Rx) (α : List Addr) (H : Hp) : Ob → Addr → Prop
  | .lst xs, a => ∃ vs, H a = some (.lst vs) ∧ RelDs R α H xs vs
  | .fro xs, a => ∃ vs ob, H a = some (.frz ob (.lst vs)) ∧ RelDs R α H xs vs
  | .dic kvs, a => ∃ vs, H a = some (.dK vs) ∧ RelKs R α H kvs vs
structure RH (R : Rx) (α : List Addr) (h : Hd) (H : Hp) : Prop where
  len : α.length = h.length
  nd : α.Nodup
  obj : ∀ (n : Nat) (o : Ob), h[n]? = some o → ∃ a, α[n]? = some a ∧ RelO R α H o a
  tab : LamX.Tabs R.T H
  kp : R.kept α H
/-- a slot may hold a lambda, no other place may -/
def RelS (R : Rx) (α : List Addr) (H : Hp) : D → V → Prop
  | .lam n, v => ∃ f, R.la n = some f ∧ v = .ref f
  | d, v => RelD R α H d v
theorem RelS.of {R : Rx} {α : List Addr} {H : Hp} {d : D} {v : V} (h : RelD R α H d v) : RelS R α H d v := by
  cases d <;> first | exact h | (unfold RelD at h; exact h.elim)
theorem RelS.to {R : Rx} {α : List Addr} {H : Hp} {d : D} {v : V} (h : RelS R α H d v) (n : ∀ m, d ≠ .lam m) : RelD R α H d v := by
  cases d <;> first | exact h | exact absurd rfl (n _)
theorem RelS.ext {R : Rx} {α α' : List Addr} {H H' : Hp} (e : Ext α H α' H') {d : D} {v : V} (h : RelS R α H d v) : RelS R α' H' d v := by
  cases d <;> first | exact h | exact RelS.of (RelD.ext e _ _ h)
def RelEnv (R : Rx) (α : List Addr) (H : Hp) (env : En) (σ : St) : Prop :=
  env.length = σ.length ∧ ∀ (i : Nat) (d : D), env[i]? = some (some d) → ∃ v, σ[i]? = some (some v) ∧ RelS R α H d v
section
variable {R : Rx} {α α' : List Addr} {H H' : Hp} {h : Hd} {env : En} {σ : St}
theorem RelEnv.ext (r : RelEnv R α H env σ) (e : Ext α H α' H') : RelEnv R α' H' env σ := ⟨r.1, fun i d q => by
  obtain ⟨v, h1, h2⟩ := r.2 i d q
  exact ⟨v, h1, h2.ext e⟩⟩
theorem RelEnv.set (r : RelEnv R α H env σ) {i : Nat} {d : D} {v : V} (hd : RelD R α H d v) : RelEnv R α H (env.set i (some d)) (σ.set i (some v)) := by
  refine ⟨by rw [List.length_set, List.length_set]; exact r.1, fun j d' q => ?_⟩
  by_cases hj : i = j
  · subst hj
    by_cases hi : i < env.length
    · rw [List.getElem?_set_self hi] at q
      cases q
      exact ⟨v, List.getElem?_set_self (by rw [← r.1]; exact hi), .of hd⟩
    · rw [List.getElem?_eq_none (by simpa using hi)] at q
      cases q
  · rw [List.getElem?_set_ne hj] at q
    obtain ⟨u, h1, h2⟩ := r.2 j d' q
    exact ⟨u, by rw [List.getElem?_set_ne hj]; exact h1, h2⟩
theorem RelEnv.clear (r : RelEnv R α H env σ) {i : Nat} : RelEnv R α H (env.set i none) (σ.set i none) := by
  refine ⟨by rw [List.length_set, List.length_set]; exact r.1, fun j d' q => ?_⟩
  by_cases hj : i = j
  · subst hj
    by_cases hi : i < env.length
    · rw [List.getElem?_set_self hi] at q
      cases q
    · rw [List.getElem?_eq_none (by simpa using hi)] at q
      cases q
  · rw [List.getElem?_set_ne hj] at q
    obtain ⟨u, h1, h2⟩ := r.2 j d' q
    exact ⟨u, by rw [List.getElem?_set_ne hj]; exact h1, h2⟩
theorem RelO.some {o : Ob} {a : Addr} (r : RelO R α H o a) : ∃ ho, H a = some ho := by
  cases o with
  | lst xs => obtain ⟨vs, e, _⟩ := r; exact ⟨_, e⟩
  | fro xs => obtain ⟨vs, ob, e, _⟩ := r; exact ⟨_, e⟩
  | dic kvs => obtain ⟨vs, e, _⟩ := r; exact ⟨_, e⟩
theorem RelO.ext {o : Ob} {a : Addr} (r : RelO R α H o a) (e : Ext α H α' H') (k : H' a = H a) : RelO R α' H' o a := by
  cases o with
  | lst xs => obtain ⟨vs, q, t⟩ := r; exact ⟨vs, k.trans q, RelDs.ext e _ _ t⟩
  | fro xs => obtain ⟨vs, ob, q, t⟩ := r; exact ⟨vs, ob, k.trans q, RelDs.ext e _ _ t⟩
  | dic kvs => obtain ⟨vs, q, t⟩ := r; exact ⟨vs, k.trans q, RelKs.ext e _ _ t⟩
theorem RH.at (r : RH R α h H) {n : Nat} {a : Addr} (e : α[n]? = some a) : ∃ o, h[n]? = some o ∧ RelO R α H o a := by
  have hn : n < α.length := (List.getElem?_eq_some_iff.mp e).1
  have hn' : n < h.length := by rw [← r.len]; exact hn
  obtain ⟨b, e1, e2⟩ := r.obj n h[n] (List.getElem?_eq_getElem hn')
  rw [e] at e1
  cases e1
  exact ⟨h[n], List.getElem?_eq_getElem hn', e2⟩
theorem RH.fresh (r : RH R α h H) {p : Addr} (hp : H p = none) : p ∉ α := fun hm => by
  obtain ⟨n, e⟩ := List.getElem?_of_mem hm
  obtain ⟨o, _, ro⟩ := r.at e
  obtain ⟨ho, e2⟩ := ro.some
  rw [hp] at e2
  cases e2
/-- an untracked thing is laid beside (a tuple, an exception's dict) -/
theorem Ext.side {p : Addr} {o : HO} (hp : H p = none) : Ext α H α (upd H p o) := ⟨⟨[], by simp⟩, fun a u e _ => by
  rw [upd_ne (ne_of_none e hp)]; exact e⟩
theorem RH.side (r : RH R α h H) {p : Addr} {o : HO} (hp : H p = none) : RH R α h (upd H p o) := ⟨r.len, r.nd, fun n ob e => by
  obtain ⟨a, h1, h2⟩ := r.obj n ob e
  obtain ⟨ho, h3⟩ := h2.some
  exact ⟨a, h1, h2.ext (Ext.side hp) (upd_ne (ne_of_none h3 hp))⟩, r.tab.ext fun b u e => (upd_ne (ne_of_none e hp)).trans e, R.mono (Ext.side hp) r.kp⟩
/-- a new object of ours -/
theorem Ext.new {p : Addr} {o : HO} (hp : H p = none) : Ext α H (α ++ [p]) (upd H p o) := ⟨⟨[p], rfl⟩, fun a u e _ => by
  rw [upd_ne (ne_of_none e hp)]; exact e⟩
theorem RH.new (r : RH R α h H) {p : Addr} {o : HO} {ob : Ob} (hp : H p = none) (n : RelO R (α ++ [p]) (upd H p o) ob p) : RH R (α ++ [p]) (h ++ [ob]) (upd H p o) := by
  refine ⟨by rw [List.length_append, List.length_append, r.len]; rfl, ?_, fun m ob' e => ?_, r.tab.ext fun b u e => (upd_ne (ne_of_none e hp)).trans e, R.mono (Ext.new hp) r.kp⟩
  · rw [List.nodup_append]
    refine ⟨r.nd, by simp, fun a ha b hb => ?_⟩
    have : b = p := by simpa using hb
    subst this
    exact fun e => r.fresh hp (e ▸ ha)
  · by_cases hm : m < h.length
    · rw [List.getElem?_append_left hm] at e
      obtain ⟨a, h1, h2⟩ := r.obj m ob' e
      obtain ⟨ho, h3⟩ := h2.some
      exact ⟨a, (Ext.new (o := o) hp).get h1, h2.ext (Ext.new hp) (upd_ne (ne_of_none h3 hp))⟩
    · have hm2 : m = h.length := by
        have := (List.getElem?_eq_some_iff.mp e).1
        rw [List.length_append] at this
        simp at this
        omega
      subst hm2
      rw [List.getElem?_append_right (Nat.le_refl _)] at e
      simp at e
      subst e
      exact ⟨p, by rw [← r.len, List.getElem?_append_right (Nat.le_refl _)]; simp, n⟩
theorem RH.new_at (r : RH R α h H) {p : Addr} : (α ++ [p])[h.length]? = some p := by
  rw [← r.len, List.getElem?_append_right (Nat.le_refl _)]; simp
/-- an object of ours is written -/
def MutO : HO → Prop
  | .lst _ => True
  | .dK _ => True
  | _ => False
theorem Ext.write {a : Addr} {o u : HO} (ha : H a = some u) (hm : MutO u) : Ext α H α (upd H a o) := ⟨⟨[], by simp⟩, fun b v e s => by
  have : b ≠ a := fun z => by
    subst z
    rw [ha] at e
    cases e
    cases u <;> first | exact hm | exact s
  rw [upd_ne this]; exact e⟩
theorem tabs_write {T : List (Addr × Str)} {a : Addr} {o u : HO} (t : LamX.Tabs T H) (ha : H a = some u) (hm : MutO u) : LamX.Tabs T (upd H a o) := fun p hp => by
  obtain ⟨ps, h1, h2, h3⟩ := t p hp
  refine ⟨ps, ?_, h2, fun pos cv hc => ?_⟩
  · rw [upd_ne (fun z => by rw [z, ha] at h1; cases h1; exact hm)]
    exact h1
  · obtain ⟨c, e1, e2⟩ := h3 pos cv hc
    refine ⟨c, e1, ?_⟩
    rw [upd_ne (fun z => by rw [z, ha] at e2; cases e2; exact hm)]
    exact e2
/-- only tables grew -/
theorem RH.extN (r : RH R α h H) (e : LamX.ExtN H H') (t : LamX.Tabs R.T H') : Ext α H α H' ∧ RH R α h H' := by
  have x : Ext α H α H' := ⟨⟨[], by simp⟩, fun a o q s => e a o q fun ps z => by rw [z] at s; exact s⟩
  refine ⟨x, r.len, r.nd, fun n o q => ?_, t, R.mono x r.kp⟩
  obtain ⟨a, h1, h2⟩ := r.obj n o q
  obtain ⟨ho, h3⟩ := h2.some
  refine ⟨a, h1, h2.ext x ?_⟩
  rw [h3]
  refine e a ho h3 fun ps z => ?_
  subst z
  cases o with
  | lst xs => obtain ⟨vs, q, _⟩ := h2; rw [h3] at q; cases q
  | fro xs => obtain ⟨vs, ob, q, _⟩ := h2; rw [h3] at q; cases q
  | dic kvs => obtain ⟨vs, q, _⟩ := h2; rw [h3] at q; cases q
theorem RH.write (r : RH R α h H) {n : Nat} {a : Addr} {o u : HO} {ob : Ob} (hn : α[n]? = some a) (ha : H a = some u) (hm : MutO u) (w : RelO R α (upd H a o) ob a) : RH R α (h.set n ob) (upd H a o) := by
  refine ⟨by rw [List.length_set]; exact r.len, r.nd, fun m ob' e => ?_, tabs_write r.tab ha hm, R.mono (Ext.write ha hm) r.kp⟩
  by_cases hmn : n = m
  · subst hmn
    have hl : n < h.length := by rw [← r.len]; exact (List.getElem?_eq_some_iff.mp hn).1
    rw [List.getElem?_set_self hl] at e
    cases e
    exact ⟨a, hn, w⟩
  · rw [List.getElem?_set_ne hmn] at e
    obtain ⟨b, h1, h2⟩ := r.obj m ob' e
    have hb : b ≠ a := fun z => by
      subst z
      obtain ⟨l1, e1⟩ := List.getElem?_eq_some_iff.mp hn
      obtain ⟨l2, e2⟩ := List.getElem?_eq_some_iff.mp h1
      exact hmn ((List.getElem_inj r.nd).mp (e1.trans e2.symm))
    exact ⟨b, h1, h2.ext (Ext.write ha hm) (upd_ne hb)⟩
end

/-! ### the judgements -/
def RelX (R : Rx) (α : List Addr) (H : Hp) (e : Exn) (cls : Value) (dd : Addr) : Prop :=
  ∃ C v', R.mg e.c = some (.ref C) ∧ cls = .ref C ∧ H dd = some (.xd [(e.f, v')]) ∧ RelD R α H e.v v'
def Fin {A B : Type} (Rl : List Addr → Hp → A → B → Prop) (R : Rx) (W : WX) (α : List Addr) (H : Hp) (σ : St) (r : Res A) (Q : B → Hp → Prop) : Prop := match r with
  | .ok d h' => ∀ α' H' v, Ext α H α' H' → RH R α' h' H' → Rl α' H' d v → Q v H'
  | .ex e h' => ∀ α' H' cls dd, Ext α H α' H' → RH R α' h' H' → RelX R α' H' e cls dd → W cls (some dd) σ H'
  | .no => False
abbrev FinE (R : Rx) := Fin (RelD R) R
abbrev FinA (R : Rx) := Fin (RelDs R) R
abbrev FinT (R : Rx) := Fin (fun _ _ (a b : Bool) => a = b) R
theorem Fin.mono {A B : Type} {Rl : List Addr → Hp → A → B → Prop} {R : Rx} {W : WX} {α α' : List Addr} {H H' : Hp} {σ : St} {r : Res A} {Q : B → Hp → Prop} (f : Fin Rl R W α H σ r Q) (e : Ext α H α' H') : Fin Rl R W α' H' σ r Q := by
  cases r with
  | ok d h => exact fun α2 H2 v e2 => f α2 H2 v (e.trans e2)
  | ex x h => exact fun α2 H2 c dd e2 => f α2 H2 c dd (e.trans e2)
  | no => exact f
theorem Fin.split {A B C E : Type} {Rl : List Addr → Hp → A → B → Prop} {Rm : List Addr → Hp → C → E → Prop} {R : Rx} {W : WX} {α : List Addr} {H : Hp} {σ : St} {r : Res A} {g : A → Hd → Res C} {Q : E → Hp → Prop} (f : Fin Rm R W α H σ (r.bind g) Q) :
    Fin Rl R W α H σ r (fun v H1 => ∃ d α1 h1, r = .ok d h1 ∧ Ext α H α1 H1 ∧ RH R α1 h1 H1 ∧ Rl α1 H1 d v ∧ Fin Rm R W α1 H1 σ (g d h1) Q) := by
  cases r with
  | ok d h => exact fun α' H' v e rh rl => ⟨d, α', h, rfl, e, rh, rl, Fin.mono (r := g d h) f e⟩
  | ex x h => exact f
  | no => exact f
theorem Fin.imp {A B : Type} {Rl : List Addr → Hp → A → B → Prop} {R : Rx} {W : WX} {α : List Addr} {H : Hp} {σ : St} {r : Res A} {Q Q' : B → Hp → Prop} (f : Fin Rl R W α H σ r Q) (q : ∀ v H, Q v H → Q' v H) : Fin Rl R W α H σ r Q' := by
  cases r with
  | ok d h => exact fun α2 H2 v e2 r2 l2 => q _ _ (f α2 H2 v e2 r2 l2)
  | ex x h => exact f
  | no => exact f
abbrev Fe := En → Hd → Res D
abbrev Fa := En → Hd → Res (List D)
abbrev Ft := En → Hd → Res Bool
def tE (R : Rx) (W : WX) (f : Fe) : TE := fun σ H Q => ∃ α env h, RelEnv R α H env σ ∧ RH R α h H ∧ FinE R W α H σ (f env h) Q
def tA (R : Rx) (W : WX) (f : Fa) : TA := fun σ H Q => ∃ α env h, RelEnv R α H env σ ∧ RH R α h H ∧ FinA R W α H σ (f env h) Q
def tT (R : Rx) (W : WX) (f : Ft) : TT := fun σ H Q => ∃ α env h, RelEnv R α H env σ ∧ RH R α h H ∧ FinT R W α H σ (f env h) Q
abbrev DE (X : Cx) (R : Rx) (W : WX) (e : Expr) (f : Fe) : Prop := PE X e (tE R W f)
abbrev DA (X : Cx) (R : Rx) (W : WX) (es : List Expr) (f : Fa) : Prop := PA X es (tA R W f)
abbrev DT (X : Cx) (R : Rx) (W : WX) (e : Expr) (f : Ft) : Prop := PT X e (tT R W f)
abbrev DW (X : Cx) (R : Rx) (W : WX) (e : Expr) (f : Ft) : Prop := PW X e (tT R W f)

/-! ### names, constants -/
@[simp] def eVar (i : Nat) : Fe := fun env h => match env[i]? with
  | some (some (.lam _)) => .no
  | some (some d) => .ok d h
  | _ => .no
@[simp] def eC (d : D) : Fe := fun _ h => .ok d h
section
variable {X : Cx} {R : Rx} {W : WX} {pos : Pos}
theorem de_var (i : Nat) {x : Str} (hN : X.N[i]? = some x := by rfl) (hv : Vis X.env.scope x := by first | exact Or.inl rfl | exact Or.inr (Or.inl rfl) | exact Or.inr (Or.inr rfl)) (hd : (x == ("__debug__" : Str)) = false := by decide)
    (hcd : (x == ("__classdict__" : Str)) = false := by decide) : DE X R W (.Name x pos) (eVar i) := by
  refine ⟨fun pins s σ H Q I h => ?_⟩
  obtain ⟨α, env, hp, re, rh, f⟩ := h
  unfold eVar at f
  cases e : env[i]? with
  | none => rw [e] at f; exact f.elim
  | some od =>
    cases od with
    | none => rw [e] at f; exact f.elim
    | some d =>
      rw [e] at f
      obtain ⟨v, h1, h2⟩ := re.2 i d e
      have q : (∀ m, d ≠ .lam m) ∧ FinE R W α H σ (.ok d hp) Q := by
        cases d <;> first | exact ⟨fun _ z => (nomatch z), f⟩ | exact (show False from f).elim
      exact (pe_var (pos := pos) hN hv hd hcd).run pins s σ H Q I ⟨v, h1, q.2 α H v .refl rh (h2.to q.1)⟩
theorem de_const {e : Expr} {v : V} {d : D} (h : PE X e (tC v)) (r : ∀ α H, RelD R α H d v) : DE X R W e (eC d) := by
  refine ⟨fun pins s σ H Q I q => ?_⟩
  obtain ⟨α, env, hp, re, rh, f⟩ := q
  exact h.run pins s σ H Q I (f α H v .refl rh (r α H))
theorem de_int {i j} : DE X R W (.Constant (.int i) j pos) (eC (.int i)) := de_const pe_int fun _ _ => .int
theorem de_bl {b j} : DE X R W (.Constant (.bool b) j pos) (eC (.bl b)) := de_const pe_bl fun _ _ => .bl
theorem de_non {j} : DE X R W (.Constant .none j pos) (eC .non) := de_const pe_non fun _ _ => .non
theorem de_str {x j} : DE X R W (.Constant (.str x) j pos) (eC (.str x)) := de_const pe_str fun _ _ => .str
/-- a def or a class of the module as a value -/
theorem de_gl {x : Str} (hg : Gl X x) (hR : R.mg = X.mg) (hm : ∃ a, X.mg x = some (.ref a)) (hd : (x == ("__debug__" : Str)) = false := by decide) : DE X R W (.Name x pos) (eC (.gl x)) := by
  obtain ⟨a, hm⟩ := hm
  exact de_const (pe_glob (v := .ref a) hg hm rfl hd) fun _ _ => .gl (by rw [hR]; exact hm)
theorem de_gint {x : Str} {i : Int} (hg : Gl X x) (hm : ∃ t, X.mg x = some (.int i t)) (hd : (x == ("__debug__" : Str)) = false := by decide) : DE X R W (.Name x pos) (eC (.int i)) := by
  obtain ⟨t, hm⟩ := hm
  exact de_const (pe_glob (v := .int i) hg hm ⟨t, rfl⟩ hd) fun _ _ => .int
theorem de_gstr {x z : Str} (hg : Gl X x) (hm : ∃ t, X.mg x = some (.str z t)) (hd : (x == ("__debug__" : Str)) = false := by decide) : DE X R W (.Name x pos) (eC (.str z)) := by
  obtain ⟨t, hm⟩ := hm
  exact de_const (pe_glob (v := .str z) hg hm ⟨t, rfl⟩ hd) fun _ _ => .str
theorem de_type {x : Str} {n : String} (hg : Gl X x) (hm : X.mg x = none) (hv : bootBuiltins x = some (.type n)) (hn : x ≠ "__name__" := by decide) (hd : (x == ("__debug__" : Str)) = false := by decide) : DE X R W (.Name x pos) (eC (.ty n)) :=
  de_const (pe_bltn (v := .ty n) hg hm hv rfl hn hd) fun _ _ => .ty
end

/-! ### operators -/
def OpD (X : Cx) (R : Rx) (f : Value → Value → Sem Value) (g : D → D → Hd → Res D) : Prop :=
  ∀ (x y : D) (α : List Addr) (h : Hd) (H : Hp) (vx vy : V) (W : WX) (σ : St) (Q : VK), RH R α h H → RelD R α H x vx → RelD R α H y vy → FinE R W α H σ (g x y h) Q → ∃ r, OpR X f r ∧ r vx vy H Q
@[simp] def eOp (g : D → D → Hd → Res D) (fa fb : Fe) : Fe := fun env h => (fa env h).bind fun x h1 => (fb env h1).bind fun y h2 => g x y h2
@[simp] def eUn (g : D → Hd → Res D) (fa : Fe) : Fe := fun env h => (fa env h).bind g
def UnD (X : Cx) (R : Rx) (f : Value → Sem Value) (g : D → Hd → Res D) : Prop :=
  ∀ (x : D) (α : List Addr) (h : Hd) (H : Hp) (vx : V) (W : WX) (σ : St) (Q : VK), RH R α h H → RelD R α H x vx → FinE R W α H σ (g x h) Q → ∃ r, UnR X f r ∧ r vx H Q
section
variable {X : Cx} {R : Rx} {W : WX} {a b c : Expr} {fa fb fc : Fe} {pos : Pos}
theorem d_bin {f : Value → Value → Sem Value} {g : D → D → Hd → Res D} (ho : OpD X R f g) (ha : DE X R W a fa) (hb : DE X R W b fb) {pins : List (Addr × Obj)} {s : Shared} {σ : St} {H : Hp} {Q : VK} (I : Inv X pins σ H s) (h : tE R W (eOp g fa fb) σ H Q) :
    wpAny (model X.prog X.w) X.A (eval a X.env) (fun v s₁ => wpAny (model X.prog X.w) X.A (eval b X.env) (fun u s₂ => wpAny (model X.prog X.w) X.A (f v u) (EP X pins σ Q) X.xe s₂) X.xe s₁) X.xe s := by
  obtain ⟨α, env, hp, re, rh, fi⟩ := h
  refine thn (ha.run pins s σ H _ I ⟨α, env, hp, re, rh, fi.split⟩) fun v s1 ⟨x, H1, I1, r1, q1⟩ => ?_
  obtain ⟨d, α1, h1, _, x1, rh1, rd1, f1⟩ := q1
  refine thn (hb.run pins s1 σ H1 _ I1 ⟨α1, env, h1, re.ext x1, rh1, f1.split⟩) fun u s2 ⟨y, H2, I2, r2, q2⟩ => ?_
  obtain ⟨d2, α2, h2, _, x2, rh2, rd2, f2⟩ := q2
  obtain ⟨r, hr, q⟩ := ho _ _ _ _ _ _ _ _ _ _ rh2 (RelD.ext x2 _ _ rd1) rd2 f2
  exact hr pins s2 σ H2 x y v u Q I2 r1 r2 q
theorem de_op {op : Operator} {g : D → D → Hd → Res D} (ho : OpD X R (binaryOp op) g) (ha : DE X R W a fa) (hb : DE X R W b fb) : DE X R W (.BinOp a op b pos) (eOp g fa fb) :=
  ⟨fun pins s σ H Q I h => wpAny_BinOp (d_bin ho ha hb I h)⟩
theorem de_cmp {op : CmpOp} {g : D → D → Hd → Res D} (ho : OpD X R (compareOp op) g) (ha : DE X R W a fa) (hb : DE X R W b fb) (hm : behindInMarks op b = false) : DE X R W (.Compare a [op] [b] pos) (eOp g fa fb) :=
  ⟨fun pins s σ H Q I h => wpAny_Compare1 (d_bin ho ha hb I h) hm⟩
theorem de_un {op : UnaryOp} {g : D → Hd → Res D} (ho : UnD X R (unaryOp op) g) (ha : DE X R W a fa) : DE X R W (.UnaryOp op a pos) (eUn g fa) := by
  refine ⟨fun pins s σ H Q I h => ?_⟩
  obtain ⟨α, env, hp, re, rh, fi⟩ := h
  refine UnaryOp_ (thn (ha.run pins s σ H _ I ⟨α, env, hp, re, rh, Fin.split (g := g) fi⟩) fun v s1 ⟨x, H1, I1, r1, q1⟩ => ?_)
  obtain ⟨d, α1, h1, _, x1, rh1, rd1, f1⟩ := q1
  obtain ⟨r, hr, q⟩ := ho _ _ _ _ _ _ _ _ rh1 rd1 f1
  exact hr pins s1 σ H1 x v Q I1 r1 q
/-! ### tests -/
@[simp] def toB : D → Hd → Res Bool := fun d h => match d with
  | .bl b => .ok b h
  | _ => .no
@[simp] def tOf (f : Fe) : Ft := fun env h => (f env h).bind toB
/-- a value that is a bool, as a test -/
theorem dt_val (ha : DE X R W a fa) (he : ∀ whole, isTrue a X.env whole = (do let v ← whole; standAt a.pos; holding [v] (truthy v)) := by intro _; rfl) : DT X R W a (tOf fa) := by
  refine ⟨fun pins s σ H Q I h => ?_⟩
  obtain ⟨α, env, hp, re, rh, fi⟩ := h
  refine (pt_val ha he).run pins s σ H Q I ⟨α, env, hp, re, rh, (Fin.split (g := toB) fi).imp fun v H1 hq => ?_⟩
  obtain ⟨d, α1, h1, _, x1, rh1, rd1, f1⟩ := hq
  cases d with
  | bl k => exact ⟨k, rd1.bl_inv, f1 α1 H1 k .refl rh1 rfl⟩
  | _ => exact (show False from f1).elim
theorem dt_cmp {op : CmpOp} {g : D → D → Hd → Res D} (ho : OpD X R (compareOp op) g) (ha : DE X R W a fa) (hb : DE X R W b fb) (hm : behindInMarks op b = false) : DT X R W (.Compare a [op] [b] pos) (tOf (eOp g fa fb)) := by
  refine ⟨fun pins s σ H Q I h => ?_⟩
  obtain ⟨α, env, hp, re, rh, fi⟩ := h
  refine wpAny_isTrue_Compare1 (thn (d_bin (Q := fun v H1 => ∃ c, v = .bl c ∧ Q c H1) ho ha hb I ⟨α, env, hp, re, rh, (Fin.split (g := toB) fi).imp fun v H1 hq => ?_⟩) fun v s1 h1 => thn h1 fun u s2 h2 => thn h2 fun c s3 ⟨x, H1, I1, r1, q1⟩ => ?_) hm
  · obtain ⟨d, α1, h1, _, x1, rh1, rd1, f1⟩ := hq
    cases d with
    | bl k => exact ⟨k, rd1.bl_inv, f1 α1 H1 k .refl rh1 rfl⟩
    | _ => exact (show False from f1).elim
  · obtain ⟨d, rfl, q⟩ := q1
    cases r1
    exact wpAny_truthy_bool ⟨H1, I1, q⟩
@[simp] def tAndD (f g : Ft) : Ft := fun env h => (f env h).bind fun c h1 => if c = true then g env h1 else .ok false h1
@[simp] def tOrD (f g : Ft) : Ft := fun env h => (f env h).bind fun c h1 => if c = true then .ok true h1 else g env h1
@[simp] def tNotD (f : Ft) : Ft := fun env h => (f env h).bind fun c h1 => .ok (!c) h1
variable {ta tb : Ft} {rest : List Expr}
theorem dw_and1 (ha : DT X R W a ta) : DW X R W (.BoolOp .And [a] pos) ta := pw_and1 ha
theorem dw_or1 (ha : DT X R W a ta) : DW X R W (.BoolOp .Or [a] pos) ta := pw_or1 ha
theorem dw_and (ha : DT X R W a ta) (hb : DW X R W (.BoolOp .And (b :: rest) pos) tb) : DW X R W (.BoolOp .And (a :: b :: rest) pos) (tAndD ta tb) := by
  refine ⟨fun wh pins s σ H Q I h => (pw_and ha hb).run wh pins s σ H Q I ?_⟩
  obtain ⟨α, env, hp, re, rh, fi⟩ := h
  refine ⟨α, env, hp, re, rh, (Fin.split fi).imp fun c H1 hq => ?_⟩
  obtain ⟨d, α1, h1, _, x1, rh1, rd1, f1⟩ := hq
  have rd1 : d = c := rd1
  subst rd1
  cases d with
  | true => exact ⟨α1, env, h1, re.ext x1, rh1, f1⟩
  | false => exact f1 α1 H1 false .refl rh1 rfl
theorem dw_or (ha : DT X R W a ta) (hb : DW X R W (.BoolOp .Or (b :: rest) pos) tb) : DW X R W (.BoolOp .Or (a :: b :: rest) pos) (tOrD ta tb) := by
  refine ⟨fun wh pins s σ H Q I h => (pw_or ha hb).run wh pins s σ H Q I ?_⟩
  obtain ⟨α, env, hp, re, rh, fi⟩ := h
  refine ⟨α, env, hp, re, rh, (Fin.split fi).imp fun c H1 hq => ?_⟩
  obtain ⟨d, α1, h1, _, x1, rh1, rd1, f1⟩ := hq
  have rd1 : d = c := rd1
  subst rd1
  cases d with
  | false => exact ⟨α1, env, h1, re.ext x1, rh1, f1⟩
  | true => exact f1 α1 H1 true .refl rh1 rfl
theorem dt_bool (h : DW X R W a ta) : DT X R W a ta := h.pt
theorem dt_not (ha : DT X R W a ta) : DT X R W (.UnaryOp .Not a pos) (tNotD ta) := by
  refine ⟨fun pins s σ H Q I h => (pt_not ha).run pins s σ H Q I ?_⟩
  obtain ⟨α, env, hp, re, rh, fi⟩ := h
  refine ⟨α, env, hp, re, rh, (Fin.split fi).imp fun c H1 hq => ?_⟩
  obtain ⟨d, α1, h1, _, x1, rh1, rd1, f1⟩ := hq
  have rd1 : d = c := rd1
  subst rd1
  exact f1 α1 H1 _ .refl rh1 rfl
/-! ### and, or, not as values: bools on the left -/
@[simp] def eAnd (fa fb : Fe) : Fe := fun env h => (fa env h).bind fun x h1 => match x with
  | .bl true => fb env h1
  | .bl false => .ok (.bl false) h1
  | _ => .no
@[simp] def eOr (fa fb : Fe) : Fe := fun env h => (fa env h).bind fun x h1 => match x with
  | .bl false => fb env h1
  | .bl true => .ok (.bl true) h1
  | _ => .no
@[simp] def eNot (fa : Fe) : Fe := fun env h => (fa env h).bind fun x h1 => match x with
  | .bl b => .ok (.bl (!b)) h1
  | _ => .no
theorem de_one {op} (h : DE X R W a fa) : DE X R W (.BoolOp op [a] pos) fa := pe_one h
theorem de_and (ha : DE X R W a fa) (hb : DE X R W (.BoolOp .And (b :: rest) pos) fb) : DE X R W (.BoolOp .And (a :: b :: rest) pos) (eAnd fa fb) := by
  refine ⟨fun pins s σ H Q I h => (pe_and ha hb).run pins s σ H Q I ?_⟩
  obtain ⟨α, env, hp, re, rh, fi⟩ := h
  refine ⟨α, env, hp, re, rh, (Fin.split fi).imp fun c H1 hq => ?_⟩
  obtain ⟨d, α1, h1, _, x1, rh1, rd1, f1⟩ := hq
  cases d with
  | bl k =>
    refine ⟨k, rd1.bl_inv, ?_⟩
    cases k with
    | true => exact ⟨α1, env, h1, re.ext x1, rh1, f1⟩
    | false => exact f1 α1 H1 _ .refl rh1 .bl
  | _ => exact (show False from f1).elim
theorem de_or (ha : DE X R W a fa) (hb : DE X R W (.BoolOp .Or (b :: rest) pos) fb) : DE X R W (.BoolOp .Or (a :: b :: rest) pos) (eOr fa fb) := by
  refine ⟨fun pins s σ H Q I h => (pe_or ha hb).run pins s σ H Q I ?_⟩
  obtain ⟨α, env, hp, re, rh, fi⟩ := h
  refine ⟨α, env, hp, re, rh, (Fin.split fi).imp fun c H1 hq => ?_⟩
  obtain ⟨d, α1, h1, _, x1, rh1, rd1, f1⟩ := hq
  cases d with
  | bl k =>
    refine ⟨k, rd1.bl_inv, ?_⟩
    cases k with
    | false => exact ⟨α1, env, h1, re.ext x1, rh1, f1⟩
    | true => exact f1 α1 H1 _ .refl rh1 .bl
  | _ => exact (show False from f1).elim
theorem de_not (ha : DE X R W a fa) : DE X R W (.UnaryOp .Not a pos) (eNot fa) := by
  refine ⟨fun pins s σ H Q I h => (pe_not ha).run pins s σ H Q I ?_⟩
  obtain ⟨α, env, hp, re, rh, fi⟩ := h
  refine ⟨α, env, hp, re, rh, (Fin.split fi).imp fun c H1 hq => ?_⟩
  obtain ⟨d, α1, h1, _, x1, rh1, rd1, f1⟩ := hq
  cases d with
  | bl k => exact ⟨k, rd1.bl_inv, f1 α1 H1 _ .refl rh1 .bl⟩
  | _ => exact (show False from f1).elim
@[simp] def eIf (ft : Ft) (fa fb : Fe) : Fe := fun env h => (ft env h).bind fun c h1 => if c = true then fa env h1 else fb env h1
theorem de_if {tc : Ft} (hc : DT X R W c tc) (ha : DE X R W a fa) (hb : DE X R W b fb) : DE X R W (.IfExp c a b pos) (eIf tc fa fb) := by
  refine ⟨fun pins s σ H Q I h => (pe_ifExp hc ha hb).run pins s σ H Q I ?_⟩
  obtain ⟨α, env, hp, re, rh, fi⟩ := h
  refine ⟨α, env, hp, re, rh, (Fin.split fi).imp fun c H1 hq => ?_⟩
  obtain ⟨d, α1, h1, _, x1, rh1, rd1, f1⟩ := hq
  have rd1 : d = c := rd1
  subst rd1
  cases d with
  | true => exact ⟨α1, env, h1, re.ext x1, rh1, f1⟩
  | false => exact ⟨α1, env, h1, re.ext x1, rh1, f1⟩
/-! ### a chain of two comparisons -/
@[simp] def eChain (g g' : D → D → Hd → Res D) (fa fb fc : Fe) : Fe := fun env h => (fa env h).bind fun x h1 => (fb env h1).bind fun y h2 => (g x y h2).bind fun z h3 => match z with
  | .bl true => (fc env h3).bind fun u h4 => g' y u h4
  | .bl false => .ok (.bl false) h3
  | _ => .no
end
end Mi

set_option Elab.async false
set_option linter.all false
set_option maxRecDepth 100000
set_option maxHeartbeats 1000000
namespace Mi
open PySem PySem.Spec PyProof.Rows L2

/-! ### targets -/
def Keep (ts : List Nat) (σ s : St) : Prop := s.length = σ.length ∧ ∀ i, i ∉ ts → s[i]? = σ[i]?
abbrev Fg := D → En → Hd → Option (En × Hd)
abbrev Fgs := List D → En → Hd → Option (En × Hd)
def FinG (R : Rx) (ts : List Nat) (σ : St) (α : List Addr) (H : Hp) (r : Option (En × Hd)) (Q : St → Hp → Prop) : Prop := match r with
  | some (env', h') => ∀ α' H' s, Ext α H α' H' → RH R α' h' H' → RelEnv R α' H' env' s → Keep ts σ s → Q s H'
  | none => False
def tG (R : Rx) (ts : List Nat) (f : Fg) : TG := fun v σ H Q => ∃ α env h d, RelEnv R α H env σ ∧ RH R α h H ∧ RelD R α H d v ∧ FinG R ts σ α H (f d env h) Q
def tGs (R : Rx) (ts : List Nat) (f : Fgs) : TGs := fun vs σ H Q => ∃ α env h ds, RelEnv R α H env σ ∧ RH R α h H ∧ RelDs R α H ds vs ∧ FinG R ts σ α H (f ds env h) Q
abbrev DG (X : Cx) (R : Rx) (tg : Expr) (ts : List Nat) (f : Fg) : Prop := PG X tg (tG R ts f)
abbrev DGs (X : Cx) (R : Rx) (tgs : List Expr) (ts : List Nat) (f : Fgs) : Prop := PGs X tgs (tGs R ts f)
@[simp] def gSet (i : Nat) : Fg := fun d env h => if i < env.length then some (env.set i (some d), h) else none
@[simp] def gsNil : Fgs := fun ds env h => match ds with
  | [] => some (env, h)
  | _ => none
@[simp] def gsCons (f : Fg) (g : Fgs) : Fgs := fun ds env h => match ds with
  | d :: r => (match f d env h with
    | some (env1, h1) => g r env1 h1
    | none => none)
  | [] => none
/-- a tuple or a list of just so many -/
@[simp] def gUnp (n : Nat) (g : Fgs) : Fg := fun d env h => match d with
  | .tup xs => if xs.length = n then g xs env h else none
  | .ref k => (match h[k]? with
    | some (.lst xs) => if xs.length = n then g xs env h else none
    | _ => none)
  | _ => none
section
variable {X : Cx} {R : Rx} {pos : Pos}
theorem Keep.refl {ts : List Nat} {σ : St} : Keep ts σ σ := ⟨rfl, fun _ _ => rfl⟩
theorem Keep.trans {ts us : List Nat} {σ s t : St} (a : Keep ts σ s) (b : Keep us s t) : Keep (ts ++ us) σ t :=
  ⟨b.1.trans a.1, fun i hi => by
    rw [List.mem_append, not_or] at hi
    exact (b.2 i hi.2).trans (a.2 i hi.1)⟩
theorem dg_name (i : Nat) {x : Str} (hN : X.N.Nodup) (hi : X.N[i]? = some x := by rfl) (hx : Loc X.env.scope x := by first | exact Or.inl rfl | exact Or.inr rfl) (hf : X.fn x = true ∨ X.env.scope.names.lookup x = some .local := by first | exact .inl rfl | exact .inr rfl | assumption) : DG X R (.Name x pos) [i] (gSet i) := by
  refine ⟨fun pins s σ H v u Q I r h => (pg_name (pos := pos) hN hi hx hf).run pins s σ H v u Q I r ?_⟩
  obtain ⟨α, env, hp, d, re, rh, rd, f⟩ := h
  unfold gSet at f
  split at f
  · exact f α H _ .refl rh (re.set rd) ⟨by rw [List.length_set], fun j hj => List.getElem?_set_ne (fun e => hj (by simp [e]))⟩
  · exact f.elim
theorem dgs_nil : DGs X R [] [] gsNil := by
  refine ⟨fun pins s σ H vs us Q I r h => pgs_nil.run pins s σ H vs us Q I r ?_⟩
  obtain ⟨α, env, hp, ds, re, rh, rd, f⟩ := h
  cases ds with
  | nil => exact ⟨rd.nil_inv, f α H σ .refl rh re .refl⟩
  | cons _ _ => exact (show False from f).elim
theorem dgs_cons {e : Expr} {es : List Expr} {ts us : List Nat} {f : Fg} {g : Fgs} (h1 : DG X R e ts f) (h2 : DGs X R es us g) (hs : (assignEach (e :: es) X.env).map (·.2) = assign e X.env :: (assignEach es X.env).map (·.2) := by rfl) :
    DGs X R (e :: es) (ts ++ us) (gsCons f g) := by
  refine ⟨fun pins s σ H vs us' Q I r h => (pgs_cons h1 h2 hs).run pins s σ H vs us' Q I r ?_⟩
  obtain ⟨α, env, hp, ds, re, rh, rd, fi⟩ := h
  cases ds with
  | nil => exact (show False from fi).elim
  | cons d ds =>
    obtain ⟨v, r', ev, r1, r2⟩ := rd.cons_inv
    subst ev
    refine ⟨v, r', rfl, α, env, hp, d, re, rh, r1, ?_⟩
    have fi : FinG R (ts ++ us) σ α H (match f d env hp with
      | some (env1, h1) => g ds env1 h1
      | none => none) Q := fi
    cases e1 : f d env hp with
    | none => rw [e1] at fi; exact fi
    | some p =>
      obtain ⟨env1, hp1⟩ := p
      rw [e1] at fi
      intro α1 H1 σ1 x1 rh1 re1 k1
      refine ⟨α1, env1, hp1, ds, re1, rh1, RelDs.ext x1 _ _ r2, ?_⟩
      have fi : FinG R (ts ++ us) σ α H (g ds env1 hp1) Q := fi
      cases e2 : g ds env1 hp1 with
      | none => rw [e2] at fi; exact fi
      | some p2 =>
        obtain ⟨env2, hp2⟩ := p2
        rw [e2] at fi
        intro α2 H2 σ2 x2 rh2 re2 k2
        exact fi α2 H2 σ2 (x1.trans x2) rh2 re2 (k1.trans k2)
theorem dg_unp {es : List Expr} {k n : Nat} {ts : List Nat} {g : Fgs} (hR : R.K = X.K) (hc : X.calm = true) (h : DGs X R es ts g)
    (hn : (assignEach es X.env).length = n := by rfl) (hst : (assignEach es X.env).findIdx? (·.1) = none := by rfl) : DG X R (.Tuple es k pos) ts (gUnp n g) := by
  refine ⟨fun pins s σ H v u Q I r hw => ?_⟩
  obtain ⟨α, env, hp, d, re, rh, rd, fi⟩ := hw
  have fi : FinG R ts σ α H (gUnp n g d env hp) Q := fi
  cases d with
  | tup xs =>
    obtain ⟨a, vs, ev, hq, rs⟩ := rd.tup_inv
    unfold gUnp at fi
    dsimp only at fi
    split at fi
    · rename_i hl
      refine (pg_tup (pos := pos) (k := k) hc h hn hst).run pins s σ H v u Q I r ⟨a, vs, ev, hR ▸ hq, by rw [← rs.length]; exact hl, α, env, hp, xs, re, rh, rs, fi⟩
    · exact fi.elim
  | ref m =>
    obtain ⟨a, ea, ev⟩ := rd.ref_inv
    obtain ⟨o, eo, ro⟩ := rh.at ea
    unfold gUnp at fi
    dsimp only at fi
    rw [eo] at fi
    cases o with
    | lst xs =>
      obtain ⟨vs, hq, rs⟩ := ro
      dsimp only at fi
      split at fi
      · rename_i hl
        refine (pg_lst (pos := pos) (k := k) hc h hn hst).run pins s σ H v u Q I r ⟨a, vs, ev, SqL.of hq, by rw [← rs.length]; exact hl, α, env, hp, xs, re, rh, rs, fi⟩
      · exact fi.elim
    | _ => exact (show False from fi).elim
  | _ => exact (show False from fi).elim
end

/-! ### statements -/
inductive SRes where
  | nx (env : En) (h : Hd) | rt (d : D) (h : Hd) | bk (env : En) (h : Hd) | ct (env : En) (h : Hd) | ex (e : Exn) (env : En) (h : Hd) | no
abbrev Fs := En → Hd → SRes
def FinS (R : Rx) (W : WX) (α : List Addr) (H : Hp) (Dn : Ends) (r : SRes) : Prop := match r with
  | .nx env h => ∀ α' H' σ', Ext α H α' H' → RH R α' h H' → RelEnv R α' H' env σ' → Dn.nx σ' H'
  | .rt d h => ∀ α' H' v, Ext α H α' H' → RH R α' h H' → RelD R α' H' d v → Dn.rt v H'
  | .bk env h => ∀ α' H' σ', Ext α H α' H' → RH R α' h H' → RelEnv R α' H' env σ' → Dn.bk σ' H'
  | .ct env h => ∀ α' H' σ', Ext α H α' H' → RH R α' h H' → RelEnv R α' H' env σ' → Dn.ct σ' H'
  | .ex e env h => ∀ α' H' σ' cls dd, Ext α H α' H' → RH R α' h H' → RelEnv R α' H' env σ' → RelX R α' H' e cls dd → W cls (some dd) σ' H'
  | .no => False
def tS (R : Rx) (W : WX) (g : Fs) : TS := fun Dn σ H => ∃ α env h, RelEnv R α H env σ ∧ RH R α h H ∧ FinS R W α H Dn (g env h)
abbrev DS (X : Cx) (R : Rx) (W : WX) (st : Stmt) (g : Fs) : Prop := PS X st (tS R W g)
abbrev DSs (X : Cx) (R : Rx) (W : WX) (st : List Stmt) (g : Fs) : Prop := PSs X st (tS R W g)
theorem FinS.mono {R : Rx} {W : WX} {α α' : List Addr} {H H' : Hp} {Dn : Ends} {r : SRes} (f : FinS R W α H Dn r) (e : Ext α H α' H') : FinS R W α' H' Dn r := by
  cases r with
  | nx env h => exact fun α2 H2 σ2 e2 => f α2 H2 σ2 (e.trans e2)
  | rt d h => exact fun α2 H2 σ2 e2 => f α2 H2 σ2 (e.trans e2)
  | bk env h => exact fun α2 H2 σ2 e2 => f α2 H2 σ2 (e.trans e2)
  | ct env h => exact fun α2 H2 σ2 e2 => f α2 H2 σ2 (e.trans e2)
  | ex x env h => exact fun α2 H2 σ2 c dd e2 => f α2 H2 σ2 c dd (e.trans e2)
  | no => exact f
@[simp] def sNil : Fs := fun env h => .nx env h
@[simp] def sSeq (f g : Fs) : Fs := fun env h => match f env h with
  | .nx env1 h1 => g env1 h1
  | r => r
/-- an expression's value in a statement -/
@[simp] def sOf (f : Fe) (k : D → Fs) : Fs := fun env h => match f env h with
  | .ok d h1 => k d env h1
  | .ex e h1 => .ex e env h1
  | .no => .no
@[simp] def sTst (f : Ft) (k : Bool → Fs) : Fs := fun env h => match f env h with
  | .ok d h1 => k d env h1
  | .ex e h1 => .ex e env h1
  | .no => .no
@[simp] def sExpr (f : Fe) : Fs := sOf f fun _ env h => .nx env h
@[simp] def sRet (f : Fe) : Fs := sOf f fun d _ h => .rt d h
@[simp] def sRetN : Fs := fun _ h => .rt .non h
@[simp] def sIf (c : Ft) (f g : Fs) : Fs := sTst c fun b => if b = true then f else g
@[simp] def sAsg (f : Fe) (g : Fg) : Fs := sOf f fun d env h => match g d env h with
  | some (env1, h1) => .nx env1 h1
  | none => .no
@[simp] def sBrk : Fs := fun env h => .bk env h
@[simp] def sCont : Fs := fun env h => .ct env h
section
variable {X : Cx} {R : Rx} {W : WX} {pos : Pos} {e : Expr} {fe : Fe} {st : Stmt} {rest : List Stmt} {f g : Fs}
theorem finS_of {σ : St} {α : List Addr} {H : Hp} {Dn : Ends} {env : En} {h : Hd} {k : D → Fs} (re : RelEnv R α H env σ) (fi : FinS R W α H Dn (sOf fe k env h)) :
    FinE R W α H σ (fe env h) (fun v H1 => ∃ d α1 h1, fe env h = .ok d h1 ∧ Ext α H α1 H1 ∧ RH R α1 h1 H1 ∧ RelD R α1 H1 d v ∧ FinS R W α1 H1 Dn (k d env h1)) := by
  unfold sOf at fi
  cases er : fe env h with
  | ok d h1 => rw [er] at fi; exact fun α1 H1 v x1 rh1 r1 => ⟨d, α1, h1, rfl, x1, rh1, r1, FinS.mono (r := k d env h1) fi x1⟩
  | ex x h1 => rw [er] at fi; exact fun α1 H1 cls dd x1 rh1 r1 => fi α1 H1 σ cls dd x1 rh1 (re.ext x1) r1
  | no => rw [er] at fi; exact fi
theorem finS_tst {ft : Ft} {σ : St} {α : List Addr} {H : Hp} {Dn : Ends} {env : En} {h : Hd} {k : Bool → Fs} (re : RelEnv R α H env σ) (fi : FinS R W α H Dn (sTst ft k env h)) :
    FinT R W α H σ (ft env h) (fun v H1 => ∃ α1 h1, ft env h = .ok v h1 ∧ Ext α H α1 H1 ∧ RH R α1 h1 H1 ∧ FinS R W α1 H1 Dn (k v env h1)) := by
  unfold sTst at fi
  cases er : ft env h with
  | ok d h1 =>
    rw [er] at fi
    intro α1 H1 v x1 rh1 r1
    have r1 : d = v := r1
    subst r1
    exact ⟨α1, h1, rfl, x1, rh1, FinS.mono (r := k d env h1) fi x1⟩
  | ex x h1 => rw [er] at fi; exact fun α1 H1 cls dd x1 rh1 r1 => fi α1 H1 σ cls dd x1 rh1 (re.ext x1) r1
  | no => rw [er] at fi; exact fi
theorem dss_nil : DSs X R W [] sNil := ⟨fun pins s σ H D I h => pss_nil.run pins s σ H D I (by
  obtain ⟨α, env, hp, re, rh, fi⟩ := h
  exact fi α H σ .refl rh re)⟩
theorem dss_cons (h1 : DS X R W st f) (h2 : DSs X R W rest g) : DSs X R W (st :: rest) (sSeq f g) := by
  refine ⟨fun pins s σ H D I h => (pss_cons h1 h2).run pins s σ H D I ?_⟩
  obtain ⟨α, env, hp, re, rh, fi⟩ := h
  refine ⟨α, env, hp, re, rh, ?_⟩
  unfold sSeq at fi
  cases er : f env hp with
  | nx env1 h1 => rw [er] at fi; exact fun α1 H1 σ1 x1 rh1 re1 => ⟨α1, env1, h1, re1, rh1, FinS.mono (r := g env1 h1) fi x1⟩
  | rt d h1 => rw [er] at fi; exact fi
  | bk d h1 => rw [er] at fi; exact fi
  | ct d h1 => rw [er] at fi; exact fi
  | ex d en h1 => rw [er] at fi; exact fi
  | no => rw [er] at fi; exact fi
theorem dss_one (h1 : DS X R W st f) : DSs X R W [st] f := pss_one h1
theorem ds_expr (he : DE X R W e fe) (hs : swapsWith e none pos.line X.env = pure false := by rfl) : DS X R W (.Expr e pos) (sExpr fe) := by
  refine ⟨fun pins s σ H D I h => (ps_expr he hs).run pins s σ H D I ?_⟩
  obtain ⟨α, env, hp, re, rh, fi⟩ := h
  refine ⟨α, env, hp, re, rh, (finS_of re fi).imp fun v H1 hq => ?_⟩
  obtain ⟨d, α1, h1, _, x1, rh1, r1, f1⟩ := hq
  exact f1 α1 H1 σ .refl rh1 (re.ext x1)
theorem ds_ret (he : DE X R W e fe) : DS X R W (.Return (some e) pos) (sRet fe) := by
  refine ⟨fun pins s σ H D I h => (ps_ret he).run pins s σ H D I ?_⟩
  obtain ⟨α, env, hp, re, rh, fi⟩ := h
  refine ⟨α, env, hp, re, rh, (finS_of re fi).imp fun v H1 hq => ?_⟩
  obtain ⟨d, α1, h1, _, x1, rh1, r1, f1⟩ := hq
  exact f1 α1 H1 v .refl rh1 r1
theorem ds_retN : DS X R W (.Return none pos) sRetN := by
  refine ⟨fun pins s σ H D I h => ps_retN.run pins s σ H D I ?_⟩
  obtain ⟨α, env, hp, re, rh, fi⟩ := h
  exact fi α H .non .refl rh .non
theorem ds_pass : DS X R W (.Pass pos) sNil := by
  refine ⟨fun pins s σ H D I h => ps_pass.run pins s σ H D I ?_⟩
  obtain ⟨α, env, hp, re, rh, fi⟩ := h
  exact fi α H σ .refl rh re
theorem ds_break : DS X R W (.Break pos) sBrk := by
  refine ⟨fun pins s σ H D I h => ps_break.run pins s σ H D I ?_⟩
  obtain ⟨α, env, hp, re, rh, fi⟩ := h
  exact fi α H σ .refl rh re
theorem ds_cont : DS X R W (.Continue pos) sCont := by
  refine ⟨fun pins s σ H D I h => ps_continue.run pins s σ H D I ?_⟩
  obtain ⟨α, env, hp, re, rh, fi⟩ := h
  exact fi α H σ .refl rh re
theorem ds_if {c : Expr} {a b : List Stmt} {fc : Ft} (hc : DT X R W c fc) (ha : DSs X R W a f) (hb : DSs X R W b g) : DS X R W (.If c a b pos) (sIf fc f g) := by
  refine ⟨fun pins s σ H D I h => (ps_if hc ha hb).run pins s σ H D I ?_⟩
  obtain ⟨α, env, hp, re, rh, fi⟩ := h
  refine ⟨α, env, hp, re, rh, (finS_tst re fi).imp fun v H1 hq => ?_⟩
  obtain ⟨α1, h1, _, x1, rh1, f1⟩ := hq
  cases v with
  | true => exact ⟨α1, env, h1, re.ext x1, rh1, f1⟩
  | false => exact ⟨α1, env, h1, re.ext x1, rh1, f1⟩
theorem ds_asg {tg : Expr} {ts : List Nat} {fg : Fg} (he : DE X R W e fe) (hg : DG X R tg ts fg) (hs : swapsWithSole [tg] e pos.line X.env = pure false := by rfl) (hw : swappedStores [tg] e X.env = pure none := by rfl)
    (h1 : (assignEach [tg] X.env).map (·.2) = [assign tg X.env] := by rfl) : DS X R W (.Assign [tg] e pos) (sAsg fe fg) := by
  refine ⟨fun pins s σ H D I h => (ps_asg he hg hs hw h1).run pins s σ H D I ?_⟩
  obtain ⟨α, env, hp, re, rh, fi⟩ := h
  refine ⟨α, env, hp, re, rh, (finS_of re fi).imp fun v H1 hq => ?_⟩
  obtain ⟨d, α1, h1, _, x1, rh1, r1, f1⟩ := hq
  refine ⟨α1, env, h1, d, re.ext x1, rh1, r1, ?_⟩
  cases eg : fg d env h1 with
  | none =>
    have f1 : FinS R W α1 H1 D (match fg d env h1 with
      | some (env1, h1) => .nx env1 h1
      | none => .no) := f1
    rw [eg] at f1
    exact f1
  | some p =>
    obtain ⟨env2, hp2⟩ := p
    have f1 : FinS R W α1 H1 D (match fg d env h1 with
      | some (env1, h1) => .nx env1 h1
      | none => .no) := f1
    rw [eg] at f1
    exact fun α2 H2 s2 x2 rh2 re2 _ => f1 α2 H2 s2 x2 rh2 re2
theorem ds_set (i : Nat) {x : Str} {pos' : Pos} (hN : X.N.Nodup) (he : DE X R W e fe) (hi : X.N[i]? = some x := by rfl) (hx : Loc X.env.scope x := by first | exact Or.inl rfl | exact Or.inr rfl) (hs : swapsWith e (some (.Name x pos')) pos.line X.env = pure false := by rfl)
    (hf : X.fn x = true ∨ X.env.scope.names.lookup x = some .local := by first | exact .inl rfl | exact .inr rfl | assumption) : DS X R W (.Assign [.Name x pos'] e pos) (sAsg fe (gSet i)) := by
  refine ⟨fun pins s σ H D I h => (ps_set (i := i) hN hi hx he hs hf).run pins s σ H D I ?_⟩
  obtain ⟨α, env, hp, re, rh, fi⟩ := h
  refine ⟨α, env, hp, re, rh, (finS_of re fi).imp fun v H1 hq => ?_⟩
  obtain ⟨d, α1, h1, _, x1, rh1, r1, f1⟩ := hq
  have f1 : FinS R W α1 H1 D (match gSet i d env h1 with
    | some (env1, h1) => .nx env1 h1
    | none => .no) := f1
  unfold gSet at f1
  split at f1
  · rename_i he
    split at he
    · cases he
      exact f1 α1 H1 _ .refl rh1 ((re.ext x1).set r1)
    · cases he
  · exact (show False from f1).elim
end
/-! ### argument lists and displays -/
@[simp] def aNil : Fa := fun _ h => .ok [] h
@[simp] def aCons (f : Fe) (g : Fa) : Fa := fun env h => (f env h).bind fun x h1 => (g env h1).bind fun xs h2 => .ok (x :: xs) h2
@[simp] def eTup (f : Fa) : Fe := fun env h => (f env h).bind fun xs h1 => if xs.length ≤ 16777216 then .ok (.tup xs) h1 else .no
@[simp] def eLst (f : Fa) : Fe := fun env h => (f env h).bind fun xs h1 => if xs.length ≤ 16777216 then .ok (.ref h1.length) (h1 ++ [.lst xs]) else .no
section
variable {X : Cx} {R : Rx} {W : WX} {pos : Pos} {e : Expr} {es : List Expr} {fe : Fe} {fa : Fa}
theorem da_nil : DA X R W [] aNil := by
  refine ⟨fun pos pins s σ H Q I h => pa_nil.run pos pins s σ H Q I ?_⟩
  obtain ⟨α, env, hp, re, rh, fi⟩ := h
  exact fi α H [] .refl rh .nil
theorem da_cons (ha : DE X R W e fe) (hr : DA X R W es fa) (hs : starEach (e :: es) X.env = (false, eval e X.env) :: starEach es X.env := by rfl) : DA X R W (e :: es) (aCons fe fa) := by
  refine ⟨fun pos pins s σ H Q I h => (pa_cons ha hr hs).run pos pins s σ H Q I ?_⟩
  obtain ⟨α, env, hp, re, rh, fi⟩ := h
  refine ⟨α, env, hp, re, rh, (Fin.split fi).imp fun v H1 hq => ?_⟩
  obtain ⟨d, α1, h1, _, x1, rh1, r1, f1⟩ := hq
  refine ⟨α1, env, h1, re.ext x1, rh1, (Fin.split f1).imp fun vs H2 hq => ?_⟩
  obtain ⟨ds, α2, h2, _, x2, rh2, r2, f2⟩ := hq
  exact f2 α2 H2 _ .refl rh2 (.cons (RelD.ext x2 _ _ r1) r2)
theorem new_tup {α : List Addr} {H : Hp} {h : Hd} {xs : List D} {vs : List V} {p : Addr} (rh : RH R α h H) (r : RelDs R α H xs vs) (hp : H p = none) :
    Ext α H α (upd H p (.tup vs)) ∧ RH R α h (upd H p (.tup vs)) ∧ RelD R α (upd H p (.tup vs)) (.tup xs) (.ref p) :=
  ⟨Ext.side hp, rh.side hp, .tup (SqT.of upd_same) (RelDs.ext (Ext.side hp) _ _ r)⟩
theorem new_lst {α : List Addr} {H : Hp} {h : Hd} {xs : List D} {vs : List V} {p : Addr} (rh : RH R α h H) (r : RelDs R α H xs vs) (hp : H p = none) :
    Ext α H (α ++ [p]) (upd H p (.lst vs)) ∧ RH R (α ++ [p]) (h ++ [.lst xs]) (upd H p (.lst vs)) ∧ RelD R (α ++ [p]) (upd H p (.lst vs)) (.ref h.length) (.ref p) :=
  ⟨Ext.new hp, rh.new hp ⟨vs, upd_same, RelDs.ext (Ext.new hp) _ _ r⟩, .ref rh.new_at⟩
theorem lineEq : (sizeLine : Nat) = 16777216 := sizeLine_eq
theorem de_tup {k} (h : DA X R W es fa) : DE X R W (.Tuple es k pos) (eTup fa) := by
  refine ⟨fun pins s σ H Q I q => (pe_tup h).run pins s σ H Q I ?_⟩
  obtain ⟨α, env, hp, re, rh, fi⟩ := q
  refine ⟨α, env, hp, re, rh, (Fin.split fi).imp fun v H1 hq => ?_⟩
  obtain ⟨d, α1, h1, _, x1, rh1, r1, f1⟩ := hq
  split at f1
  · rename_i hl
    refine ⟨by rw [← r1.length, lineEq]; exact hl, fun p hp => ?_⟩
    obtain ⟨a, b, c⟩ := new_tup rh1 r1 hp
    exact f1 α1 _ _ a b c
  · exact (show False from f1).elim
theorem de_lst (h : DA X R W es fa) : DE X R W (.List es pos) (eLst fa) := by
  refine ⟨fun pins s σ H Q I q => (pe_lst h).run pins s σ H Q I ?_⟩
  obtain ⟨α, env, hp, re, rh, fi⟩ := q
  refine ⟨α, env, hp, re, rh, (Fin.split fi).imp fun v H1 hq => ?_⟩
  obtain ⟨d, α1, h1, _, x1, rh1, r1, f1⟩ := hq
  split at f1
  · rename_i hl
    refine ⟨by rw [← r1.length, lineEq]; exact hl, fun p hp => ?_⟩
    obtain ⟨a, b, c⟩ := new_lst rh1 r1 hp
    exact f1 _ _ _ a b c
  · exact (show False from f1).elim
end
end Mi

set_option Elab.async false
set_option linter.all false
set_option maxRecDepth 100000
set_option maxHeartbeats 1000000
namespace Mi
open PySem PySem.Spec PyProof.Rows L2

/-! ### what is walked -/
inductive Nx where
  | item (d : D) | stop | bad
abbrev Src := Hd → Nat → Nx
abbrev Fi := En → Hd → Res Src
def RelI (R : Rx) (α : List Addr) (H : Hp) (s : Src) (J : It) : Prop := ∀ α' H' h' i, Ext α H α' H' → RH R α' h' H' → match s h' i with
  | .item d => J.go i H' ∧ ∀ x H'', J.yld i H' x H'' → Ext α' H' α' H'' ∧ RH R α' h' H'' ∧ RelD R α' H'' d x
  | .stop => J.stop i H'
  | .bad => True
def tI (R : Rx) (W : WX) (f : Fi) : TI := fun σ H Q => ∃ α env h, RelEnv R α H env σ ∧ RH R α h H ∧ Fin (RelI R) R W α H σ (f env h) Q
abbrev DI (X : Cx) (R : Rx) (W : WX) (tg iter : Expr) (f : Fi) : Prop := PI X tg iter (tI R W f)
theorem RelI.mono {R : Rx} {α α1 : List Addr} {H H1 : Hp} {s : Src} {J : It} (r : RelI R α H s J) (e : Ext α H α1 H1) : RelI R α1 H1 s J := fun α' H' h' i x => r α' H' h' i (e.trans x)
/-- a value walked: a tuple, a list -/
def fixS (xs : List D) : Src := fun _ i => match xs[i]? with
  | some d => .item d
  | none => .stop
def liveS (n : Nat) : Src := fun h i => match h[n]? with
  | some (.lst xs) => fixS xs h i
  | some (.fro xs) => fixS xs h i
  | _ => .bad
def rngS (lo : Int) (n : Nat) (c : Int) : Src := fun _ i => if i < n then .item (.int (lo + (i : Nat) * c)) else .stop
/-- each item with its number -/
def enmS (s : Src) : Src := fun h i => match s h i with
  | .item d => .item (.tup [.int (i : Nat), d])
  | .stop => .stop
  | .bad => .bad
@[simp] def walk1 : D → Hd → Res Src := fun d h => match d with
  | .tup xs => .ok (fixS xs) h
  | .ref n => (match h[n]? with
    | some (.lst _) => .ok (liveS n) h
    | some (.fro _) => .ok (liveS n) h
    | _ => .no)
  | _ => .no
@[simp] def iOf (f : Fe) : Fi := fun env h => (f env h).bind walk1
@[simp] def iEnm (f : Fe) : Fi := fun env h => (f env h).bind fun d h1 => (walk1 d h1).bind fun s h2 => .ok (enmS s) h2
section
variable {X : Cx} {R : Rx} {W : WX} {pos : Pos} {tg e : Expr} {fe : Fe}
theorem rel_fix {α : List Addr} {H : Hp} {a : Addr} {xs : List D} {vs : List V} (hq : SqT R.K H a vs) (r : RelDs R α H xs vs) : RelI R α H (fixS xs) (Itt R.K a) := by
  intro α' H' h' i x rh
  unfold fixS
  have hq' := x.sqT hq
  cases e : xs[i]? with
  | some d =>
    obtain ⟨v, ev, rv⟩ := (RelDs.ext x _ _ r).get e
    exact ⟨⟨vs, v, hq', ev⟩, fun y H'' hy => by
      obtain ⟨rfl, hy⟩ := hy
      have := hy vs hq'
      rw [ev] at this
      cases this
      exact ⟨.refl, rh, rv⟩⟩
  | none =>
    refine ⟨vs, hq', ?_⟩
    rw [← r.length]
    exact List.getElem?_eq_none_iff.mp e
theorem lst_of {α : List Addr} {H : Hp} {h : Hd} {n : Nat} {a : Addr} {xs : List D} (rh : RH R α h H) (ha : α[n]? = some a) (e : h[n]? = some (.lst xs) ∨ h[n]? = some (.fro xs)) : ∃ vs, SqL R.K H a vs ∧ RelDs R α H xs vs := by
  obtain ⟨o, eo, ro⟩ := rh.at ha
  rcases e with e | e
  · rw [e] at eo
    cases eo
    obtain ⟨vs, q, r⟩ := ro
    exact ⟨vs, SqL.of q, r⟩
  · rw [e] at eo
    cases eo
    obtain ⟨vs, ob, q, r⟩ := ro
    exact ⟨vs, .inl (.inr ⟨ob, q⟩), r⟩
theorem rel_live {α : List Addr} {H : Hp} {n : Nat} {a : Addr} (ha : α[n]? = some a) : RelI R α H (liveS n) (Itl R.K a) := by
  intro α' H' h' i x rh
  have go : ∀ xs, (h'[n]? = some (.lst xs) ∨ h'[n]? = some (.fro xs)) → match fixS xs h' i with
      | .item d => (Itl R.K a).go i H' ∧ ∀ x H'', (Itl R.K a).yld i H' x H'' → Ext α' H' α' H'' ∧ RH R α' h' H'' ∧ RelD R α' H'' d x
      | .stop => (Itl R.K a).stop i H'
      | .bad => True := fun xs hx => by
    obtain ⟨vs, hq, r⟩ := lst_of rh (x.get ha) hx
    unfold fixS
    cases e : xs[i]? with
    | some d =>
      obtain ⟨v, ev, rv⟩ := r.get e
      exact ⟨⟨vs, v, hq, ev⟩, fun y H'' hy => by
        obtain ⟨rfl, hy⟩ := hy
        have := hy vs hq
        rw [ev] at this
        cases this
        exact ⟨.refl, rh, rv⟩⟩
    | none =>
      refine ⟨vs, hq, ?_⟩
      rw [← r.length]
      exact List.getElem?_eq_none_iff.mp e
  unfold liveS
  cases e : h'[n]? with
  | none => trivial
  | some o =>
    cases o with
    | lst xs => exact go xs (.inl e)
    | fro xs => exact go xs (.inr e)
    | dic kvs => trivial
theorem rel_rng {α : List Addr} {H : Hp} {lo : Int} {n : Nat} : RelI R α H (rngS lo n 1) (Itr lo n) := by
  intro α' H' h' i x rh
  unfold rngS
  by_cases hi : i < n
  · rw [if_pos hi]
    exact ⟨hi, fun y H'' hy => by
      obtain ⟨rfl, rfl⟩ := hy
      rw [Int.mul_one]
      exact ⟨.refl, rh, .int⟩⟩
  · rw [if_neg hi]
    exact Nat.le_of_not_lt hi
theorem rel_rngC {α : List Addr} {H : Hp} {lo c : Int} {n : Nat} : RelI R α H (rngS lo n c) (Itc lo c n) := by
  intro α' H' h' i x rh
  unfold rngS
  by_cases hi : i < n
  · rw [if_pos hi]
    exact ⟨hi, fun y H'' hy => by
      obtain ⟨rfl, rfl⟩ := hy
      exact ⟨.refl, rh, .int⟩⟩
  · rw [if_neg hi]
    exact Nat.le_of_not_lt hi
/-- a list or a tuple -/
theorem di_of (hK : R.K = X.K) (he : DE X R W e fe) : DI X R W tg e (iOf fe) := by
  refine ⟨fun pins s σ H Q I h => ?_⟩
  obtain ⟨α, env, hp, re, rh, fi⟩ := h
  refine thn (he.run pins s σ H _ I ⟨α, env, hp, re, rh, Fin.split (g := walk1) fi⟩) fun u s1 ⟨v, H1, I1, r1, q1⟩ => ?_
  obtain ⟨d, α1, h1, _, x1, rh1, rd1, f1⟩ := q1
  cases d with
  | tup xs =>
    obtain ⟨a, vs, ev, hq, rs⟩ := rd1.tup_inv
    subst ev
    cases r1
    obtain ⟨its, rv, p, hz⟩ := I1.tuple (hK ▸ hq)
    refine wpAny_pyIter_tuple (show s1.heap.IsTuple a its.toArray from p) ?_
    refine ⟨s1.heap.objs.size, [s1.heap.objs.size], _, _, H1, rfl, I1.kept (t' := s1.toks) fun b o e => Heap.get?_push_of_some _ e, turn_tuple a _, ⟨_, Heap.get?_push_size _ rfl, rfl, rfl⟩, fun b hb => ?_, f1 α1 H1 _ .refl rh1 (hK ▸ rel_fix hq rs)⟩
    have e : b = s1.heap.objs.size := by simpa using hb
    subst e
    exact I1.fpOk (Nat.le_refl _) (I1.hok.fresh (Nat.le_refl _))
  | ref n =>
    obtain ⟨a, ea, ev⟩ := rd1.ref_inv
    subst ev
    cases r1
    have lives : ∀ xs, (h1[n]? = some (.lst xs) ∨ h1[n]? = some (.fro xs)) → walk1 (.ref n) h1 = .ok (liveS n) h1 → wpAny (model X.prog X.w) X.A (pyIter (.ref a)) (PIE X pins σ tg Q) X.xe s1 := fun xs hx ew => by
      rw [ew] at f1
      obtain ⟨vs, hq, rs⟩ := lst_of rh1 ea hx
      obtain ⟨its, rv, p, hz⟩ := I1.list (hK ▸ hq)
      refine wpAny_pyIter_list p.isList ?_
      refine ⟨s1.heap.objs.size, [s1.heap.objs.size], _, _, H1, rfl, I1.kept (t' := s1.toks) fun b o e => Heap.get?_push_of_some _ e, turn_list a _, ⟨_, Heap.get?_push_size _ rfl, rfl, rfl⟩, fun b hb => ?_, f1 α1 H1 _ .refl rh1 (hK ▸ rel_live ea)⟩
      have e : b = s1.heap.objs.size := by simpa using hb
      subst e
      exact I1.fpOk (Nat.le_refl _) (I1.hok.fresh (Nat.le_refl _))
    unfold walk1 at f1 lives
    dsimp only at f1 lives
    cases e : h1[n]? with
    | none => rw [e] at f1; exact f1.elim
    | some o =>
      cases o with
      | lst xs => exact lives xs (.inl e) (by rw [e])
      | fro xs => exact lives xs (.inr e) (by rw [e])
      | dic kvs => rw [e] at f1; exact f1.elim
  | _ => exact (show False from f1).elim
end

/-! ### enumerate -/
/-- the tuple at a, each item in a new pair -/
def IteT (K : PySem.W.Frag) (a : Addr) : It :=
  ⟨fun i H => ∃ (xs : List V) (x : V), SqT K H a xs ∧ xs[i]? = some x, fun i H v H' => ∃ T x, v = .ref T ∧ H T = none ∧ H' = upd H T (.tup [.int (i : Nat), x]) ∧ ∀ xs, SqT K H a xs → xs[i]? = some x, fun i H => ∃ xs : List V, SqT K H a xs ∧ xs.length ≤ i⟩
theorem turn_enumT {P : Program} {w : World} {K : PySem.W.Frag} {elts : List Expr} {kk : Nat} {tpos : Pos} (a e it : Addr) :
    Turn P w K (.Tuple elts kk tpos) (IteT K a) [e, it] e (fun i h => (∃ old, IsEnum h e it ((i : Nat) : Int) old) ∧ h.IsTupleIter it a i ∧ e ≠ it) where
  mem := by simp
  obj := fun i h st b hb => by
    obtain ⟨⟨old, he⟩, ⟨o, ho, hc, hd⟩, _⟩ := st
    have e' : b = e ∨ b = it := by simpa using hb
    rcases e' with z | z
    · rw [z]; exact ⟨_, he, fun v q => nomatch q⟩
    · rw [z]; exact ⟨o, ho, fun v q => by rw [hd] at q; cases q⟩
  keep := fun i h h' st k => let ⟨⟨old, he⟩, hi, hne⟩ := st; ⟨⟨old, k e (by simp) _ he⟩, hi.at fun o q => k it (by simp) o q, hne⟩
  item := by
    intro X hP hw hK hc i pins s σ H E I hf st hg
    subst hP hw hK
    obtain ⟨⟨old, he⟩, hit, hne⟩ := st
    obtain ⟨xs, x, hq, hx⟩ := hg
    obtain ⟨its, rv, p, hz⟩ := I.tuple hq
    obtain ⟨u, hu, ru⟩ := rv.get hx
    have hel : e < s.heap.objs.size := Heap.lt_size he
    have hil : it < s.heap.objs.size := by obtain ⟨_, q, _⟩ := hit; exact Heap.lt_size q
    obtain ⟨oi, hoi, hci, hdi⟩ := id hit
    obtain ⟨oa, hoa, hca, na, hda⟩ := id (show s.heap.IsTuple a its.toArray from p)
    have hae : e ≠ a := fun z => by
      rw [← z, he] at hoa
      cases hoa
      exact absurd hca (by simp)
    have hai : a ≠ it := fun z => by
      rw [z, hoi] at hoa
      cases hoa
      rw [hci] at hca
      exact absurd hca (by simp)
    have DR := Draws.tuple (prog := X.prog) (w := X.w) (A := X.A.in1) (I.ok.hd hc) it a hai its.toArray
    have hlt : i < its.toArray.size := by
      have := (List.getElem?_eq_some_iff.mp hu).1
      simpa using this
    refine wpAny_pyNext_enum_itemC DR he ⟨hit, p⟩ hlt hne (by simp [hne, hae]) fun y h' tk hP ho hst' hT hsz hk => ?_
    have ey : y = u := by
      have hP : its.toArray[i]? = some y := hP
      rw [List.getElem?_toArray, hu] at hP
      exact (Option.some.inj hP).symm
    subst ey
    have hit' := hst'.1
    refine ⟨_, rfl, wpAny_letOwnedTupleGo_enum (s := { s with heap := h', toks := tk + 1 }) ho fun h'' he' sb => ?_⟩
    have hT2 : h''.get? s.heap.objs.size = some { cls := .type "tuple", data := .seq #[.int i tk, y] } := (sb.2 _ (Nat.ne_of_gt hel)).trans hT
    have new : ObjOk X.prog X.w (upd H s.heap.objs.size (.tup [.int (i : Nat), x])) h'' s.heap.objs.size (.tup [.int (i : Nat), x]) :=
      ⟨by show 2 ≤ sizeLine; decide, [.int i tk, y], .cons ⟨_, rfl⟩ (.cons ru .nil), ⟨_, hT2, rfl, _, rfl⟩⟩
    have I1 : Inv X pins σ (upd H s.heap.objs.size (.tup [.int (i : Nat), x])) { s with heap := h'', toks := tk + 1 } :=
      I.turnedNew (ch := [e, it]) (fun b ob hb q => (sb.2 b (fun z => hb (by simp [z]))).trans (hk b ob (fun z => hb (by simp [z])) (fun z => hb (by simp [z])) q)) hf (Nat.le_refl _) new
    refine ⟨.ref s.heap.objs.size, _, I1, rfl, ⟨_, x, rfl, I.hok.fresh (Nat.le_refl _), rfl, fun ys hy => by rw [I.tuple_inj hy hq]; exact hx⟩, ⟨⟨y, ?_⟩, hit'.at fun o q => (sb.2 it (Ne.symm hne)).trans q, hne⟩, fun b hb => ?_⟩
    · have e1 : ((i + 1 : Nat) : Int) = (i : Int) + 1 := by omega
      rw [e1]; exact he'
    · have hb' : b < s.heap.objs.size := by
        have e' : b = e ∨ b = it := by simpa using hb
        rcases e' with z | z
        · rw [z]; exact hel
        · rw [z]; exact hil
      rw [upd_ne (Nat.ne_of_lt hb')]
      exact (hf b hb).1
  done := by
    intro X hP hw hK hc i pins s σ H E I hf st hg
    subst hP hw hK
    obtain ⟨⟨old, he⟩, hit, hne⟩ := st
    obtain ⟨xs, hq, hx⟩ := hg
    obtain ⟨its, rv, p, hz⟩ := I.tuple hq
    obtain ⟨f0, f1, f2, f3, f4, f5⟩ := hf it (by simp)
    have hl := rv.length
    obtain ⟨oi, hoi, hci, hdi⟩ := id hit
    obtain ⟨oa, hoa, hca, na, hda⟩ := id (show s.heap.IsTuple a its.toArray from p)
    have hai : a ≠ it := fun z => by
      rw [z, hoi] at hoa
      cases hoa
      rw [hci] at hca
      exact absurd hca (by simp)
    have hT : s.TypeIs (.ref e) "enumerate" := ⟨_, he, rfl⟩
    unfold pyNext
    refine wpAny_bind (wpAny_attempt (wpAny_callSpecial?_slot (name := Str.ofString "__next__") hT F.slot_enumerate_next
      (wpAny_call_entry F.slot_enumerate_next hT F.entry_enumerate_next ?_ (F.args_enumerate_next_1 _))))
    show wpAny _ _ (field (.ref e) 2 >>= _) _ _ _
    refine wpAny_bind (wpAny_field he rfl (x := .ref it) rfl ?_)
    refine wpAny_bind (wpAny_nextOf_tuple_end (I.ok.hd hc) hit (show s.heap.IsTuple a its.toArray from p) (by simp; omega) fun h' x he' hx' => ?_)
    obtain ⟨o, ho, hc⟩ := hx'
    refine wpAny_bind (wpAny_isInstance (T := "StopIteration") (b := true) ⟨o, ho, hc⟩ isSubtype_stop ?_)
    exact wpAny_pure ⟨rfl, I.turned (t' := s.toks) (fun b o hb q => he' b o hb q) f0 f1 f3 f4 f5⟩
  self := fun A i s Q E st h => let ⟨⟨_, he⟩, _⟩ := st; wpAny_pyIter_enum he h
set_option maxHeartbeats 1000000 in
theorem meets_enumerate_newB1 {v : Value} {o : Obj} {H : Heap → Prop} (B : Begins v o H) :
    Meets (Builtin.«enumerate.__new__» ⟨[.type "enumerate", v], []⟩) (fun _ R s => H s.heap ∧
      R (.ok (.ret (.ref (s.heap.push o).objs.size))) { s with heap := (s.heap.push o).push { cls := .type "enumerate", data := .fields #[.none, .bool false, .ref s.heap.objs.size, rawInt 0, .none, .none] } }) :=
  .of_wp fun prog w A R s h => by
    obtain ⟨hp, g, d, tk, os⟩ := s; obtain ⟨h1, h⟩ := h
    have hsub := sub_enumerate
    have q1 : ∀ {A' : Around} {E : Value → Shared → Prop} {Q : Value → Shared → Prop}, Q (.ref hp.objs.size) ⟨hp.push o, g, d, tk, os⟩ → wpAny (model prog w) A' (pyIter v) Q E ⟨hp, g, d, tk, os⟩ :=
      fun q => B.iter prog w _ _ ⟨hp, g, d, tk, os⟩ _ h1 q
    wp_walk using q1
    refine wpAny_stack_any fun st => wpAny_pure ?_
    split
    · rename_i c _ _ _ _ _
      cases (c == Value.type "enumerate")
      · wp_walk using q1
        exact ⟨_, rfl, h⟩
      · wp_walk using q1
        exact ⟨_, rfl, h⟩
    · wp_walk using q1
      exact ⟨_, rfl, h⟩
theorem call_enum_begins {prog : Program} {w : World} {A : Around} {E : Value → Shared → Prop} {s : Shared} {v : Value} {o : Obj} {H : Heap → Prop} {Q : Value → Shared → Prop} (B : Begins v o H) (h1 : H s.heap)
    (h : ∀ h', IsEnum h' (s.heap.objs.size + 1) s.heap.objs.size 0 .none → h'.get? s.heap.objs.size = some o → h'.objs.size = s.heap.objs.size + 2 →
      (∀ b o, s.heap.get? b = some o → h'.get? b = some o) → Q (.ref (s.heap.objs.size + 1)) { s with heap := h' }) :
    wpAny (model prog w) A (call (.type "enumerate") [v]) Q E s := by
  refine callType_new F.called_enumerate (by decide) (F.typeCall_enumerate_1 _) (F.newCall_enumerate_1 _) (fun obj => F.args_object_init_2 obj _) F.entry_enumerate_new
    (meets_enumerate_newB1 B) ⟨h1, ?_⟩
  have hz : (s.heap.push o).objs.size = s.heap.objs.size + 1 := Heap.size_push ..
  show _ ∧ _
  rw [hz]
  have he : IsEnum ((s.heap.push o).push { cls := .type "enumerate", data := .fields #[.none, .bool false, .ref s.heap.objs.size, rawInt 0, .none, .none] }) (s.heap.objs.size + 1) s.heap.objs.size 0 .none := by
    have := Heap.get?_push_size (s.heap.push o) (o := { cls := .type "enumerate", data := .fields #[.none, .bool false, .ref s.heap.objs.size, rawInt 0, .none, .none] }) rfl
    rw [hz] at this; exact this
  refine ⟨⟨_, he, rfl⟩, h _ he (Heap.get?_push_of_some _ (Heap.get?_push_size _ B.free)) (by rw [Heap.size_push, hz]) fun b o x => Heap.get?_push_of_some _ (Heap.get?_push_of_some _ x)⟩
end Mi

set_option Elab.async false
set_option linter.all false
set_option maxRecDepth 100000
set_option maxHeartbeats 1000000
namespace Mi
open PySem PySem.Spec PyProof.Rows L2
section
variable {R : Rx}
theorem rel_enm {α : List Addr} {H : Hp} {n : Nat} {a : Addr} (ha : α[n]? = some a) : RelI R α H (enmS (liveS n)) (Ite R.K a) := by
  intro α' H' h' i x rh
  have go : ∀ xs, (h'[n]? = some (.lst xs) ∨ h'[n]? = some (.fro xs)) → match (match fixS xs h' i with
      | .item d => Nx.item (.tup [.int (i : Nat), d])
      | .stop => .stop
      | .bad => .bad) with
      | .item d => (Ite R.K a).go i H' ∧ ∀ x H'', (Ite R.K a).yld i H' x H'' → Ext α' H' α' H'' ∧ RH R α' h' H'' ∧ RelD R α' H'' d x
      | .stop => (Ite R.K a).stop i H'
      | .bad => True := fun xs hx => by
    obtain ⟨vs, hq, r⟩ := lst_of rh (x.get ha) hx
    unfold fixS
    cases e : xs[i]? with
    | some d =>
      obtain ⟨v, ev, rv⟩ := r.get e
      exact ⟨⟨vs, v, hq, ev⟩, fun y H'' hy => by
        obtain ⟨T, z, rfl, hT, rfl, hy⟩ := hy
        have := hy vs hq
        rw [ev] at this
        cases this
        exact new_tup rh (.cons .int (.cons rv .nil)) hT⟩
    | none =>
      refine ⟨vs, hq, ?_⟩
      rw [← r.length]
      exact List.getElem?_eq_none_iff.mp e
  unfold enmS liveS
  cases e : h'[n]? with
  | none => trivial
  | some o =>
    cases o with
    | lst xs => exact go xs (.inl e)
    | fro xs => exact go xs (.inr e)
    | dic kvs => trivial
theorem rel_enmT {α : List Addr} {H : Hp} {a : Addr} {xs : List D} {vs : List V} (hq : SqT R.K H a vs) (r : RelDs R α H xs vs) : RelI R α H (enmS (fixS xs)) (IteT R.K a) := by
  intro α' H' h' i x rh
  unfold enmS fixS
  have hq' := x.sqT hq
  cases e : xs[i]? with
  | some d =>
    obtain ⟨v, ev, rv⟩ := (RelDs.ext x _ _ r).get e
    exact ⟨⟨vs, v, hq', ev⟩, fun y H'' hy => by
      obtain ⟨T, z, rfl, hT, rfl, hy⟩ := hy
      have := hy vs hq'
      rw [ev] at this
      cases this
      exact new_tup rh (.cons .int (.cons rv .nil)) hT⟩
  | none =>
    refine ⟨vs, hq', ?_⟩
    rw [← r.length]
    exact List.getElem?_eq_none_iff.mp e
end
section
variable {X : Cx} {R : Rx} {W : WX} {pos : Pos} {e : Expr} {fe : Fe}
theorem di_enum {elts : List Expr} {kk : Nat} {tpos p : Pos} (hK : R.K = X.K) (hg : Gl X "enumerate") (hm : X.mg "enumerate" = none) (he : DE X R W e fe) (hs : starEach [e] X.env = [(false, eval e X.env)] := by rfl) :
    DI X R W (.Tuple elts kk tpos) (.Call (.Name "enumerate" p) [e] [] pos) (iEnm fe) := by
  refine ⟨fun pins s σ H Q I h => ?_⟩
  obtain ⟨α, env, hp, re, rh, fi⟩ := h
  have ha : PA X [e] (tCons (tE R W fe) tNil) := pa_cons he pa_nil hs
  refine Call_ (ld_blt I hg hm boot_enumerate (PyProof.Rows.callWith_type1 (thn (ha.run pos pins s σ H (fun vs H1 => ∃ v, vs = [v] ∧ ∃ d α1 h1, fe env hp = Res.ok d h1 ∧ Ext α H α1 H1 ∧ RH R α1 h1 H1 ∧ RelD R α1 H1 d v ∧ Fin (RelI R) R W α1 H1 σ ((walk1 d h1).bind fun s h2 => Res.ok (enmS s) h2) Q) I
    ⟨α, env, hp, re, rh, (Fin.split (Rl := RelD R) (r := fe env hp) fi).imp fun v H1 hq => ⟨v, rfl, hq⟩⟩) fun us s1 ⟨vs, H1, I1, r1, q1⟩ => ?_) hs rfl))
  obtain ⟨v, ev, d, α1, h1, _, x1, rh1, rd1, f1⟩ := q1
  subst ev
  cases r1 with
  | cons r rr =>
  cases rr
  cases d with
  | tup xs =>
    obtain ⟨a, vs, ev, hq, rs⟩ := rd1.tup_inv
    subst ev
    cases r
    obtain ⟨its, rv, p', hz⟩ := I1.tuple (hK ▸ hq)
    refine call_enum_begins (begins_tuple a its.toArray) p' fun h' he hit hsz hk => wpAny_pyIter_enum he ?_
    have I2 : Inv X pins σ H1 { s1 with heap := h' } := I1.kept (t' := s1.toks) hk
    refine ⟨s1.heap.objs.size + 1, [s1.heap.objs.size + 1, s1.heap.objs.size], _, _, H1, rfl, I2, turn_enumT a (s1.heap.objs.size + 1) s1.heap.objs.size, ⟨⟨.none, he⟩, ⟨_, hit, rfl, rfl⟩, Nat.succ_ne_self _⟩, fun b hb => ?_, f1 α1 H1 _ .refl rh1 (hK ▸ rel_enmT hq rs)⟩
    have e' : b = s1.heap.objs.size + 1 ∨ b = s1.heap.objs.size := by simpa using hb
    have hle : s1.heap.objs.size ≤ b := by
      rcases e' with z | z
      · rw [z]; exact Nat.le_add_right _ _
      · rw [z]; exact Nat.le_refl _
    exact I1.fpOk hle (I1.hok.fresh hle)
  | ref n =>
    obtain ⟨a, ea, ev⟩ := rd1.ref_inv
    subst ev
    cases r
    have lives : ∀ xs, (h1[n]? = some (.lst xs) ∨ h1[n]? = some (.fro xs)) → walk1 (.ref n) h1 = .ok (liveS n) h1 → wpAny (model X.prog X.w) X.A (call (.type "enumerate") [.ref a]) (fun v s₁ => wpAny (model X.prog X.w) X.A (pyIter v) (PIE X pins σ (.Tuple elts kk tpos) Q) X.xe s₁) X.xe s1 := fun xs hx ew => by
      rw [ew] at f1
      obtain ⟨vs, hq, rs⟩ := lst_of rh1 ea hx
      obtain ⟨its, rv, p', hz⟩ := I1.list (hK ▸ hq)
      refine call_enum_begins (begins_list a its.toArray) p'.isList fun h' he hit hsz hk => wpAny_pyIter_enum he ?_
      have I2 : Inv X pins σ H1 { s1 with heap := h' } := I1.kept (t' := s1.toks) hk
      refine ⟨s1.heap.objs.size + 1, [s1.heap.objs.size + 1, s1.heap.objs.size], _, _, H1, rfl, I2, turn_enum a (s1.heap.objs.size + 1) s1.heap.objs.size, ⟨⟨.none, he⟩, ⟨_, hit, rfl, rfl⟩, Nat.succ_ne_self _⟩, fun b hb => ?_, f1 α1 H1 _ .refl rh1 (hK ▸ rel_enm ea)⟩
      have e' : b = s1.heap.objs.size + 1 ∨ b = s1.heap.objs.size := by simpa using hb
      have hle : s1.heap.objs.size ≤ b := by
        rcases e' with z | z
        · rw [z]; exact Nat.le_add_right _ _
        · rw [z]; exact Nat.le_refl _
      exact I1.fpOk hle (I1.hok.fresh hle)
    unfold walk1 at f1 lives
    dsimp only at f1 lives
    cases e : h1[n]? with
    | none => rw [e] at f1; exact f1.elim
    | some o =>
      cases o with
      | lst xs => exact lives xs (.inl e) (by rw [e])
      | fro xs => exact lives xs (.inr e) (by rw [e])
      | dic kvs => rw [e] at f1; exact f1.elim
  | _ => exact (show False from f1).elim

/-! ### range -/
theorem lim_ex : ∃ n : Int, n = 4611686018427387904 := ⟨_, rfl⟩
/-- 2 ^ 62: hidden from the kernel's reduction -/
noncomputable def lim62 : Int := Classical.choose lim_ex
theorem lim62_eq : lim62 = 4611686018427387904 := Classical.choose_spec lim_ex
noncomputable def rngOk (i : Int) : Bool := decide (-lim62 ≤ i) && decide (i < lim62)
theorem rng_small {i : Int} (h1 : -1000000 ≤ i) (h2 : i ≤ 1000000) : rngOk i = true := by
  unfold rngOk
  rw [Bool.and_eq_true, decide_eq_true_eq, decide_eq_true_eq, lim62_eq]
  omega
noncomputable def iRng1D (fa : Fa) : Fi := fun env h => (fa env h).bind fun ds h1 => match ds with
  | [.int j] => if rngOk j = true then .ok (rngS 0 j.toNat 1) h1 else .no
  | _ => .no
noncomputable def iRng2D (fa : Fa) : Fi := fun env h => (fa env h).bind fun ds h1 => match ds with
  | [.int i, .int j] => if (rngOk i && rngOk j) = true then .ok (rngS i (j - i).toNat 1) h1 else .no
  | _ => .no
noncomputable def iRng3D (fa : Fa) : Fi := fun env h => (fa env h).bind fun ds h1 => match ds with
  | [.int i, .int j, .int c] => if (rngOk i && rngOk j && decide (c = -1)) = true then .ok (rngS i (i - j).toNat (-1)) h1 else .no
  | _ => .no
theorem rngOk_of {i : Int} (h : rngOk i = true) : -(2 ^ 62) ≤ i ∧ i < 2 ^ 62 := by
  unfold rngOk at h
  rw [lim62_eq] at h
  simp only [Bool.and_eq_true, decide_eq_true_eq] at h
  have e : (2 : Int) ^ 62 = 4611686018427387904 := by decide
  rw [e]
  exact h
theorem di_rng1 {tg a : Expr} {p : Pos} {fa : Fa} (hg : Gl X "range") (hm : X.mg "range" = none) (ha : DA X R W [a] fa) (hs : starEach [a] X.env = [(false, eval a X.env)] := by rfl) : DI X R W tg (.Call (.Name "range" p) [a] [] pos) (iRng1D fa) := by
  refine ⟨fun pins s σ H Q I h => (pi_range1 (pos := pos) (p := p) hg hm ha hs).run pins s σ H Q I ?_⟩
  obtain ⟨α, env, hp, re, rh, fi⟩ := h
  refine ⟨α, env, hp, re, rh, (Fin.split fi).imp fun vs H1 hq => ?_⟩
  obtain ⟨ds, α1, h1, _, x1, rh1, rd1, f1⟩ := hq
  split at f1
  · obtain ⟨v, ev, r⟩ := rd1.one
    split at f1
    · rename_i hk
      obtain ⟨k1, k2⟩ := rngOk_of hk
      exact ⟨_, by rw [ev, r.int_inv], k1, k2, f1 α1 H1 _ .refl rh1 rel_rng⟩
    · exact f1.elim
  · exact f1.elim
theorem di_rng2 {tg a b : Expr} {p : Pos} {fa : Fa} (hg : Gl X "range") (hm : X.mg "range" = none) (ha : DA X R W [a, b] fa) (hs : starEach [a, b] X.env = [(false, eval a X.env), (false, eval b X.env)] := by rfl) (hs2 : starEach [b] X.env = [(false, eval b X.env)] := by rfl) :
    DI X R W tg (.Call (.Name "range" p) [a, b] [] pos) (iRng2D fa) := by
  refine ⟨fun pins s σ H Q I h => (pi_range2 (pos := pos) (p := p) hg hm ha hs hs2).run pins s σ H Q I ?_⟩
  obtain ⟨α, env, hp, re, rh, fi⟩ := h
  refine ⟨α, env, hp, re, rh, (Fin.split fi).imp fun vs H1 hq => ?_⟩
  obtain ⟨ds, α1, h1, _, x1, rh1, rd1, f1⟩ := hq
  split at f1
  · obtain ⟨v, v', ev, r, r'⟩ := rd1.two
    split at f1
    · rename_i hk
      rw [Bool.and_eq_true] at hk
      obtain ⟨k1, k2⟩ := rngOk_of hk.1
      obtain ⟨k3, k4⟩ := rngOk_of hk.2
      exact ⟨_, _, by rw [ev, r.int_inv, r'.int_inv], ⟨k1, k2, k3, k4⟩, f1 α1 H1 _ .refl rh1 rel_rng⟩
    · exact f1.elim
  · exact f1.elim
theorem di_rng3 {tg a b c : Expr} {p : Pos} {fa : Fa} (hg : Gl X "range") (hm : X.mg "range" = none) (ha : DA X R W [a, b, c] fa)
    (hs : starEach [a, b, c] X.env = (false, eval a X.env) :: starEach [b, c] X.env := by rfl) (hpl : (backTo pos (starEach [b, c] X.env)).any (·.1) = false := by rfl) :
    DI X R W tg (.Call (.Name "range" p) [a, b, c] [] pos) (iRng3D fa) := by
  refine ⟨fun pins s σ H Q I h => (pi_range3 (pos := pos) (p := p) hg hm ha hs hpl).run pins s σ H Q I ?_⟩
  obtain ⟨α, env, hp, re, rh, fi⟩ := h
  refine ⟨α, env, hp, re, rh, (Fin.split fi).imp fun vs H1 hq => ?_⟩
  obtain ⟨ds, α1, h1, _, x1, rh1, rd1, f1⟩ := hq
  split at f1
  · obtain ⟨v, r', ev, r1, r2⟩ := rd1.cons_inv
    obtain ⟨v', v'', ev', r3, r4⟩ := r2.two
    split at f1
    · rename_i hk
      rw [Bool.and_eq_true, Bool.and_eq_true, decide_eq_true_eq] at hk
      obtain ⟨⟨hk1, hk2⟩, hk3⟩ := hk
      obtain ⟨k1, k2⟩ := rngOk_of hk1
      obtain ⟨k3, k4⟩ := rngOk_of hk2
      subst hk3
      exact ⟨_, _, _, _, by rw [ev, ev', r1.int_inv, r3.int_inv, r4.int_inv], RgC.neg k1 k2 k3 k4, f1 α1 H1 _ .refl rh1 rel_rngC⟩
    · exact f1.elim
  · exact f1.elim
end
/-! ### for -/
def forL (src : Src) (tg : Fg) (body : Fs) : Nat → Nat → Fs
  | 0, _, _, _ => .no
  | n + 1, i, env, h => match src h i with
    | .stop => .nx env h
    | .bad => .no
    | .item d => (match tg d env h with
      | none => .no
      | some (env1, h1) => (match body env1 h1 with
        | .nx env2 h2 => forL src tg body n (i + 1) env2 h2
        | .ct env2 h2 => forL src tg body n (i + 1) env2 h2
        | .bk env2 h2 => .nx env2 h2
        | r => r))
theorem most_ex : ∃ n : Nat, n = 1099511627776 := ⟨_, rfl⟩
/-- the fuel: hidden from the kernel's reduction -/
noncomputable def most : Nat := Classical.choose most_ex
theorem most_eq : most = 1099511627776 := Classical.choose_spec most_ex
noncomputable def sFor (it : Fi) (tg : Fg) (body : Fs) : Fs := fun env h => match it env h with
  | .ok src h1 => forL src tg body most 0 env h1
  | .ex e h1 => .ex e env h1
  | .no => .no
def whileL (c : Ft) (body : Fs) : Nat → Fs
  | 0, _, _ => .no
  | n + 1, env, h => match c env h with
    | .ok false h1 => .nx env h1
    | .ok true h1 => (match body env h1 with
      | .nx env2 h2 => whileL c body n env2 h2
      | .ct env2 h2 => whileL c body n env2 h2
      | .bk env2 h2 => .nx env2 h2
      | r => r)
    | .ex e h1 => .ex e env h1
    | .no => .no
noncomputable def sWhile (c : Ft) (body : Fs) : Fs := whileL c body most
section
variable {X : Cx} {R : Rx} {W : WX} {pos : Pos} {tg iter : Expr} {body : List Stmt} {fi : Fi} {ts : List Nat} {fg : Fg} {fb : Fs}
theorem ds_for (hp : PassesOwn (model X.prog X.w) X.A X.env X.xe) (hc : X.calm = true) (hi : DI X R W tg iter fi) (hg : DG X R tg ts fg) (hb : DSs X R W body fb)
    (hs : ∀ x, foldedSetIterable iter X.env x = pure x := by intro _; rfl) : DS X R W (.For tg iter body [] pos) (sFor fi fg fb) := by
  refine ⟨fun pins s σ H Dn I h => (ps_for hp hc hi hg hb hs).run pins s σ H Dn I ?_⟩
  obtain ⟨α, env, hp, re, rh, f⟩ := h
  refine ⟨α, env, hp, re, rh, ?_⟩
  unfold sFor at f
  cases er : fi env hp with
  | no => rw [er] at f; exact f
  | ex e h1 => rw [er] at f; exact fun α1 H1 cls dd x1 rh1 r1 => f α1 H1 σ cls dd x1 rh1 (re.ext x1) r1
  | ok src h1 =>
    rw [er] at f
    intro α1 H1 J x1 rh1 rj
    have f : FinS R W α H Dn (forL src fg fb most 0 env h1) := f
    refine ⟨fun i m σ' H' => ∃ α' env' h', Ext α1 H1 α' H' ∧ RelEnv R α' H' env' σ' ∧ RH R α' h' H' ∧ FinS R W α' H' Dn (forL src fg fb m i env' h'), ⟨most, α1, env, h1, .refl, re.ext x1, rh1, f.mono x1⟩, ?_⟩
    rintro i m σ' H' ⟨α', env', h', xx, re', rh', f'⟩
    cases m with
    | zero => exact (show False from f').elim
    | succ m =>
      have rj' := rj α' H' h' i xx rh'
      unfold forL at f'
      cases es : src h' i with
      | bad => rw [es] at f'; exact (show False from f').elim
      | stop =>
        rw [es] at f' rj'
        exact .inl ⟨rj', f' α' H' σ' .refl rh' re'⟩
      | item d =>
        rw [es] at f' rj'
        refine .inr ⟨rj'.1, fun σ2 H2 => ∃ α2 env2 h2, Ext α1 H1 α2 H2 ∧ RelEnv R α2 H2 env2 σ2 ∧ RH R α2 h2 H2 ∧ FinS R W α2 H2 Dn (forL src fg fb m (i + 1) env2 h2), fun σ2 H2 hn => ⟨m, Nat.lt_succ_self m, hn⟩, fun x H2 hy => ?_⟩
        obtain ⟨x2, rh2, rd2⟩ := rj'.2 x H2 hy
        refine ⟨α', env', h', d, re'.ext x2, rh2, rd2, ?_⟩
        dsimp only at f'
        cases eg : fg d env' h' with
        | none => rw [eg] at f'; exact f'
        | some p =>
          obtain ⟨env3, h3⟩ := p
          rw [eg] at f'
          dsimp only at f'
          intro α3 H3 σ3 x3 rh3 re3 _
          refine ⟨α3, env3, h3, re3, rh3, ?_⟩
          cases eb : fb env3 h3 with
          | nx env4 h4 =>
            rw [eb] at f'
            exact fun α4 H4 σ4 x4 rh4 re4 => ⟨α4, env4, h4, ((xx.trans x2).trans x3).trans x4, re4, rh4, f'.mono ((x2.trans x3).trans x4)⟩
          | ct env4 h4 =>
            rw [eb] at f'
            exact fun α4 H4 σ4 x4 rh4 re4 => ⟨α4, env4, h4, ((xx.trans x2).trans x3).trans x4, re4, rh4, f'.mono ((x2.trans x3).trans x4)⟩
          | bk env4 h4 =>
            rw [eb] at f'
            exact fun α4 H4 σ4 x4 rh4 re4 => f' α4 H4 σ4 ((x2.trans x3).trans x4) rh4 re4
          | rt d4 h4 =>
            rw [eb] at f'
            exact fun α4 H4 v x4 rh4 re4 => f' α4 H4 v ((x2.trans x3).trans x4) rh4 re4
          | ex e4 env4 h4 =>
            rw [eb] at f'
            exact fun α4 H4 σ4 c4 d4 x4 rh4 re4 => f' α4 H4 σ4 c4 d4 ((x2.trans x3).trans x4) rh4 re4
          | no => rw [eb] at f'; exact f'
theorem ds_while {c : Expr} {fc : Ft} (hp : PassesOwn (model X.prog X.w) X.A X.env X.xe) (hc : DT X R W c fc) (hb : DSs X R W body fb) : DS X R W (.While c body [] pos) (sWhile fc fb) := by
  refine ⟨fun pins s σ H Dn I h => (ps_while hp hc hb).run pins s σ H Dn I ?_⟩
  obtain ⟨α, env, hp, re, rh, f⟩ := h
  refine ⟨fun m σ' H' => ∃ α' env' h', RelEnv R α' H' env' σ' ∧ RH R α' h' H' ∧ FinS R W α' H' Dn (whileL fc fb m env' h'), ⟨most, α, env, hp, re, rh, f⟩, ?_⟩
  rintro m σ' H' ⟨α', env', h', re', rh', f'⟩
  cases m with
  | zero => exact (show False from f').elim
  | succ m =>
    unfold whileL at f'
    refine ⟨α', env', h', re', rh', ?_⟩
    cases ec : fc env' h' with
    | no => rw [ec] at f'; exact f'
    | ex e h1 => rw [ec] at f'; exact fun α1 H1 cls dd x1 rh1 r1 => f' α1 H1 σ' cls dd x1 rh1 (re'.ext x1) r1
    | ok b h1 =>
      rw [ec] at f'
      intro α1 H1 b' x1 rh1 r1
      have r1 : b = b' := r1
      subst r1
      cases b with
      | false => exact f' α1 H1 σ' x1 rh1 (re'.ext x1)
      | true =>
        dsimp only at f'
        refine ⟨fun σ2 H2 => ∃ α2 env2 h2, RelEnv R α2 H2 env2 σ2 ∧ RH R α2 h2 H2 ∧ FinS R W α2 H2 Dn (whileL fc fb m env2 h2), fun σ2 H2 hn => ⟨m, Nat.lt_succ_self m, hn⟩, ?_⟩
        refine ⟨α1, env', h1, re'.ext x1, rh1, ?_⟩
        cases eb : fb env' h1 with
        | nx env4 h4 =>
          rw [eb] at f'
          exact fun α4 H4 σ4 x4 rh4 re4 => ⟨α4, env4, h4, re4, rh4, f'.mono (x1.trans x4)⟩
        | ct env4 h4 =>
          rw [eb] at f'
          exact fun α4 H4 σ4 x4 rh4 re4 => ⟨α4, env4, h4, re4, rh4, f'.mono (x1.trans x4)⟩
        | bk env4 h4 =>
          rw [eb] at f'
          exact fun α4 H4 σ4 x4 rh4 re4 => f' α4 H4 σ4 (x1.trans x4) rh4 re4
        | rt d4 h4 =>
          rw [eb] at f'
          exact fun α4 H4 v x4 rh4 re4 => f' α4 H4 v (x1.trans x4) rh4 re4
        | ex e4 env4 h4 =>
          rw [eb] at f'
          exact fun α4 H4 σ4 c4 d4 x4 rh4 re4 => f' α4 H4 σ4 c4 d4 (x1.trans x4) rh4 re4
        | no => rw [eb] at f'; exact f'
end
end Mi

set_option Elab.async false
set_option linter.all false
set_option maxRecDepth 100000
set_option maxHeartbeats 1000000
namespace Mi
open PySem PySem.Spec PyProof.Rows L2

/-! ### comprehensions -/
@[simp] def wipeE (env : En) : List Nat → En
  | [] => env
  | v :: vs => (wipeE env vs).set v none
def lcL (src : Src) (tg : Fg) (tst : Ft) (el : Fe) (env : En) (k : Nat) : Nat → Nat → Hd → Res D
  | 0, _, _ => .no
  | n + 1, i, h => match src h i with
    | .stop => .ok (.ref k) h
    | .bad => .no
    | .item d => (match tg d env h with
      | none => .no
      | some (env1, h1) => (match tst env1 h1 with
        | .ok false h2 => lcL src tg tst el env k n (i + 1) h2
        | .ok true h2 => (match el env1 h2 with
          | .ok y h3 => (match h3[k]? with
            | some (.lst acc) => if acc.length < 16777216 then lcL src tg tst el env k n (i + 1) (h3.set k (.lst (acc ++ [y]))) else .no
            | _ => .no)
          | _ => .no)
        | _ => .no))
noncomputable def eLc (it : Fi) (tg : Fg) (tst : Ft) (el : Fe) (vs : List Nat) : Fe := fun env h => match it env h with
  | .ok src h1 => lcL src tg tst el (wipeE env vs) h1.length most 0 (h1 ++ [.lst []])
  | .ex e h1 => .ex e h1
  | .no => .no
@[simp] def tYesD : Ft := fun _ h => .ok true h
def W0 : WX := fun _ _ _ _ => False
abbrev DTs (X : Cx) (R : Rx) (W : WX) (es : List Expr) (f : Ft) : Prop := PTs X es (tT R W f)
section
variable {R : Rx} {α : List Addr} {H : Hp}
theorem RelEnv.wipe {env : En} {σ : St} (r : RelEnv R α H env σ) : ∀ vs : List Nat, RelEnv R α H (wipeE env vs) (wipe σ vs)
  | [] => r
  | v :: vs => by
    unfold wipeE L2.wipe
    exact (RelEnv.wipe r vs).clear
theorem wipe_in {σ : St} {i : Nat} : ∀ {vs : List Nat}, i ∈ vs → i < σ.length → (wipe σ vs)[i]? = some none
  | [], h, _ => by simp at h
  | v :: vs, h, hl => by
    unfold L2.wipe
    by_cases e : v = i
    · subst e
      exact List.getElem?_set_self (by rw [wipe_length]; exact hl)
    · rw [List.getElem?_set_ne e]
      exact wipe_in (by
        rcases List.mem_cons.mp h with z | z
        · exact absurd z.symm e
        · exact z) hl
theorem wipe_keep {σ s : St} {ts vs : List Nat} (k : Keep ts (wipe σ vs) s) (hs : ∀ i ∈ ts, i ∈ vs) : wipe s vs = wipe σ vs := by
  have hl : s.length = σ.length := by rw [k.1, wipe_length]
  refine List.ext_getElem? fun i => ?_
  by_cases hi : i ∈ vs
  · by_cases hb : i < σ.length
    · rw [wipe_in hi hb, wipe_in hi (by rw [hl]; exact hb)]
    · rw [List.getElem?_eq_none (by rw [wipe_length]; omega), List.getElem?_eq_none (by rw [wipe_length]; omega)]
  · rw [wipe_out hi, k.2 i (fun z => hi (hs i z))]
end
section
variable {X : Cx} {R : Rx} {W : WX} {pos : Pos}
theorem dts_nil : DTs X R W [] tYesD := by
  refine ⟨fun pins s σ H Q I h => pts_nil.run pins s σ H Q I ?_⟩
  obtain ⟨α, env, hp, re, rh, fi⟩ := h
  exact fi α H true .refl rh rfl
theorem dts_one {c : Expr} {f : Ft} (h : DT X R W c f) : DTs X R W [c] f := pts_one h
theorem lc_turns {σ : St} {wi : TI} {src : Src} {J : It} {tg : Fg} {tst : Ft} {el : Fe} {env : En} {vs ts : List Nat} {α1 : List Addr} {h1 : Hd} {H1 : Hp} {Q : VK} (re : RelEnv R α1 H1 env σ) (rh : RH R α1 h1 H1) (rj : RelI R α1 H1 src J) (hts : ∀ i ∈ ts, i ∈ vs)
    (f : FinE R W α1 H1 σ (lcL src tg tst el (wipeE env vs) h1.length most 0 (h1 ++ [.lst []])) Q) (D : Addr) (hD : H1 D = none) :
    ∃ W' : Nat → Nat → Hp → Prop, (∃ m, W' 0 m (upd H1 D (.lst []))) ∧ ∀ i m H, W' i m H →
      (J.stop i H ∧ Q (.ref D) H) ∨ (J.go i H ∧ ∃ Nx : Hp → Prop, (∀ H', Nx H' → ∃ m', m' < m ∧ W' (i + 1) m' H') ∧ ∀ x H', J.yld i H x H' → tG R ts tg x (wipe σ vs) H' fun σ2 H2 => wipe σ2 vs = wipe σ vs ∧ tT R W0 tst σ2 H2 fun b H3 =>
        if b = true then tE R W0 el σ2 H3 fun y H4 => ∃ acc, H4 D = some (.lst acc) ∧ acc.length < sizeLine ∧ Nx (upd H4 D (.lst (acc ++ [y]))) else Nx H3) := by
  have x0 : Ext α1 H1 (α1 ++ [D]) (upd H1 D (.lst [])) := Ext.new hD
  have rh0 : RH R (α1 ++ [D]) (h1 ++ [.lst []]) (upd H1 D (.lst [])) := rh.new hD ⟨[], upd_same, .nil⟩
  have hD0 : (α1 ++ [D])[h1.length]? = some D := rh.new_at
  refine ⟨fun i m H => ∃ α' h', Ext (α1 ++ [D]) (upd H1 D (.lst [])) α' H ∧ RH R α' h' H ∧ FinE R W α' H σ (lcL src tg tst el (wipeE env vs) h1.length m i h') Q, ⟨most, _, _, .refl, rh0, f.mono x0⟩, ?_⟩
  rintro i m H ⟨α', h', xx, rh', f'⟩
  cases m with
  | zero => exact (show False from f').elim
  | succ m =>
    have rj' := rj α' H h' i (x0.trans xx) rh'
    unfold lcL at f'
    cases es : src h' i with
    | bad => rw [es] at f'; exact (show False from f').elim
    | stop =>
      rw [es] at f' rj'
      exact .inl ⟨rj', f' α' H _ .refl rh' (.ref (xx.get hD0))⟩
    | item d =>
      rw [es] at f' rj'
      dsimp only at f'
      refine .inr ⟨rj'.1, fun H2 => ∃ α2 h2, Ext (α1 ++ [D]) (upd H1 D (.lst [])) α2 H2 ∧ RH R α2 h2 H2 ∧ FinE R W α2 H2 σ (lcL src tg tst el (wipeE env vs) h1.length m (i + 1) h2) Q, fun H2 hn => ⟨m, Nat.lt_succ_self m, hn⟩, fun x H2 hy => ?_⟩
      obtain ⟨x2, rh2, rd2⟩ := rj'.2 x H2 hy
      refine ⟨α', wipeE env vs, h', d, (RelEnv.wipe re vs).ext ((x0.trans xx).trans x2), rh2, rd2, ?_⟩
      cases eg : tg d (wipeE env vs) h' with
      | none => rw [eg] at f'; exact (show False from f').elim
      | some p =>
        obtain ⟨env3, h3⟩ := p
        rw [eg] at f'
        dsimp only at f'
        intro α3 H3 σ3 x3 rh3 re3 k3
        refine ⟨wipe_keep k3 hts, α3, env3, h3, re3, rh3, ?_⟩
        cases et : tst env3 h3 with
        | no => rw [et] at f'; exact (show False from f').elim
        | ex e h4 => rw [et] at f'; exact (show False from f').elim
        | ok b h4 =>
          rw [et] at f'
          intro α4 H4 b' x4 rh4 e4
          have e4 : b = b' := e4
          subst e4
          cases b with
          | false => exact ⟨α4, h4, ((xx.trans x2).trans x3).trans x4, rh4, f'.mono ((x2.trans x3).trans x4)⟩
          | true =>
            dsimp only at f'
            refine ⟨α4, env3, h4, re3.ext x4, rh4, ?_⟩
            cases ee : el env3 h4 with
            | no => rw [ee] at f'; exact (show False from f').elim
            | ex e h5 => rw [ee] at f'; exact (show False from f').elim
            | ok y h5 =>
              rw [ee] at f'
              dsimp only at f'
              intro α5 H5 v x5 rh5 rd5
              have xD : Ext (α1 ++ [D]) (upd H1 D (.lst [])) α5 H5 := (((xx.trans x2).trans x3).trans x4).trans x5
              obtain ⟨o, eo, ro⟩ := rh5.at (xD.get hD0)
              rw [eo] at f'
              cases o with
              | fro _ => exact (show False from f').elim
              | dic _ => exact (show False from f').elim
              | lst acc =>
                obtain ⟨ws, hw, rw'⟩ := ro
                dsimp only at f'
                split at f'
                · rename_i hl
                  refine ⟨ws, hw, by rw [← rw'.length, lineEq]; exact hl, ?_⟩
                  have xw : Ext α5 H5 α5 (upd H5 D (.lst (ws ++ [v]))) := Ext.write hw trivial
                  exact ⟨α5, h5.set h1.length (.lst (acc ++ [y])), xD.trans xw, rh5.write (xD.get hD0) hw trivial ⟨ws ++ [v], upd_same, RelDs.ext xw _ _ (rw'.append (.cons rd5 .nil))⟩,
                    f'.mono ((((x2.trans x3).trans x4).trans x5).trans xw)⟩
                · exact (show False from f').elim
theorem de_lc {elt tg iter : Expr} {ifs : List Expr} {scope : Scope} {own : List (Str × Nat)} {ts : List Nat} {fi : Fi} {fg : Fg} {ft : Ft} {fe : Fe} (hc : X.calm = true) (hN : X.N.Nodup) (hi : DI X R W tg iter fi) (ok : BlkOk X.N X.env.scope scope own) (hts : ∀ i ∈ ts, i ∈ own.map (·.2))
    (hg : ∀ (s : Shared) (H : Hp) (C : Addr) (cl : List (Str × Addr)) (fp : List Addr), DG (X.blk s H scope (compEnvC scope cl C X.env) fp) R tg ts fg) (ht : ∀ (s : Shared) (H : Hp) (C : Addr) (cl : List (Str × Addr)) (fp : List Addr), DTs (X.blk s H scope (compEnvC scope cl C X.env) fp) R W0 ifs ft)
    (he : ∀ (s : Shared) (H : Hp) (C : Addr) (cl : List (Str × Addr)) (fp : List Addr), DE (X.blk s H scope (compEnvC scope cl C X.env) fp) R W0 elt fe) (hs : ∀ x, foldedSetIterable iter X.env x = pure x := by intro _; rfl) :
    DE X R W (.ListComp elt [⟨tg, iter, ifs, 0⟩] scope pos) (eLc fi fg ft fe (own.map (·.2))) := by
  refine ⟨fun pins s σ H Q I h => (pe_lc hc hN hi ok hg ht he hs).run pins s σ H Q I ?_⟩
  obtain ⟨α, env, hp, re, rh, f⟩ := h
  refine ⟨α, env, hp, re, rh, ?_⟩
  have f : FinE R W α H σ (match fi env hp with
    | .ok src h1 => lcL src fg ft fe (wipeE env (own.map (·.2))) h1.length most 0 (h1 ++ [.lst []])
    | .ex e h1 => .ex e h1
    | .no => .no) Q := f
  cases er : fi env hp with
  | no => rw [er] at f; exact f
  | ex e h1 => rw [er] at f; exact f
  | ok src h1 =>
    rw [er] at f
    intro α1 H1 J x1 rh1 rj
    exact fun D hD => lc_turns (wi := tI R W fi) (re.ext x1) rh1 rj hts (f.mono x1) D hD
theorem ds_setLc (i : Nat) {y : Str} {py : Pos} {elt tg iter : Expr} {ifs : List Expr} {scope : Scope} {own : List (Str × Nat)} {ts : List Nat} {fi : Fi} {fg : Fg} {ft : Ft} {fe : Fe} {spos : Pos} (hc : X.calm = true) (hN : X.N.Nodup) (hy : X.N[i]? = some y) (hyl : X.env.scope.names.lookup y = some .local)
    (hsw : swapsWith (.ListComp elt [⟨tg, iter, ifs, 0⟩] scope pos) (some (.Name y py)) spos.line X.env = pure true) (hi : DI X R W tg iter fi) (ok : BlkOk X.N X.env.scope scope own) (hts : ∀ i ∈ ts, i ∈ own.map (·.2))
    (hg : ∀ (s : Shared) (H : Hp) (C : Addr) (cl : List (Str × Addr)) (fp : List Addr), DG (X.blk s H scope (compEnvC scope cl C X.env) fp) R tg ts fg) (ht : ∀ (s : Shared) (H : Hp) (C : Addr) (cl : List (Str × Addr)) (fp : List Addr), DTs (X.blk s H scope (compEnvC scope cl C X.env) fp) R W0 ifs ft)
    (he : ∀ (s : Shared) (H : Hp) (C : Addr) (cl : List (Str × Addr)) (fp : List Addr), DE (X.blk s H scope (compEnvC scope cl C X.env) fp) R W0 elt fe) (hs : ∀ x, foldedSetIterable iter X.env x = pure x := by intro _; rfl) :
    DS X R W (.Assign [.Name y py] (.ListComp elt [⟨tg, iter, ifs, 0⟩] scope pos) spos) (sAsg (eLc fi fg ft fe (own.map (·.2))) (gSet i)) := by
  refine ⟨fun pins s σ H Dn I h => (ps_setLc hc hN hy hyl hsw hi ok hg ht he hs).run pins s σ H Dn I ?_⟩
  obtain ⟨α, env, hp, re, rh, f⟩ := h
  refine ⟨α, env, hp, re, rh, ?_⟩
  have f0 := finS_of re f
  have f : FinE R W α H σ (match fi env hp with
    | .ok src h1 => lcL src fg ft fe (wipeE env (own.map (·.2))) h1.length most 0 (h1 ++ [.lst []])
    | .ex e h1 => .ex e h1
    | .no => .no) _ := f0
  cases er : fi env hp with
  | no => rw [er] at f; exact f
  | ex e h1 => rw [er] at f; exact f
  | ok src h1 =>
    rw [er] at f
    intro α1 H1 J x1 rh1 rj
    refine fun D hD => lc_turns (wi := tI R W fi) (Q := fun x H1 => gName i x σ H1 Dn.nx) (re.ext x1) rh1 rj hts ((f.mono x1).imp fun v H2 hq => ?_) D hD
    obtain ⟨d, α2, h2, _, x2, rh2, r2, f2⟩ := hq
    have f2 : FinS R W α2 H2 Dn (match gSet i d env h2 with
      | some (env1, h1) => .nx env1 h1
      | none => .no) := f2
    unfold gSet at f2
    split at f2
    · rename_i he
      split at he
      · cases he
        exact f2 α2 H2 _ .refl rh2 ((re.ext x2).set r2)
      · cases he
    · exact (show False from f2).elim
end

/-! ### defs -/
def spD (R : Rx) (n : Nat) (F : List D → Hd → Res D) : Sp := fun vs H Q E => vs.length = n ∧ ∃ α ds h, RelDs R α H ds vs ∧ RH R α h H ∧ (match F ds h with
  | .ok d h' => ∀ α' H' v, Ext α H α' H' → RH R α' h' H' → RelD R α' H' d v → Q v H'
  | .ex e h' => ∀ α' H' cls dd, Ext α H α' H' → RH R α' h' H' → RelX R α' H' e cls dd → E cls (some dd) H'
  | .no => False)
@[simp] def runF (m : Nat) (fb : Fs) : List D → Hd → Res D := fun ds h => match fb (ds.map some ++ List.replicate (m - ds.length) none) h with
  | .nx _ h' => .ok .non h'
  | .rt d h' => .ok d h'
  | .ex e _ h' => .ex e h'
  | _ => .no
abbrev rx (K : PySem.W.Frag) (mg : Str → Option Value) (T : List (Addr × Str)) : Rx := ⟨K, mg, fun _ => none, fun _ => none, T, fun _ _ => True, fun _ h => h⟩
/-- room, and no guard stands -/
structure RoomG (k : Nat) (A : Around) : Prop where
  rm : Room k A
  gd : A.guards = some []
theorem RoomG.mono {j k : Nat} {A : Around} (r : RoomG k A) (h : j ≤ k) : RoomG j A := ⟨r.rm.mono h, r.gd⟩
theorem RoomG.deeper {k : Nat} {A : Around} (r : RoomG (k + 1) A) (env : Env) : RoomG k (A.deeper env) := ⟨r.rm.deeper env, r.gd⟩
/-- a def's promise where no guard stands -/
structure FnG (P : Program) (w : World) (K : PySem.W.Frag) (mg : Str → Option Value) (base : Heap) (CX : CXT) (k : Nat) (f : Addr) (fd : FuncData) (ps : List Str) (sp : Sp) : Prop where
  len : ∀ vs H Q E, sp vs H Q E → vs.length = ps.length
  run : ∀ (A : Around) (outer : List Env) (s : Shared) (H : Hp) (args : Args) (us : List Value) (vs : List V) (Q : VK) (E : XK), RoomG k A → Env0 P w K mg base A outer s H → BindsTo s fd args (ps.zip us) → Vals vs us → sp vs H Q E →
    codeAny (model P w) A (.call (.ref f) args) (CR CX outer P w H s Q E) s
theorem FnG.mono {P : Program} {w : World} {K : PySem.W.Frag} {mg : Str → Option Value} {base : Heap} {CX : CXT} {j k : Nat} {f : Addr} {fd : FuncData} {ps : List Str} {sp : Sp} (F : FnG P w K mg base CX j f fd ps sp) (h : j ≤ k) :
    FnG P w K mg base CX k f fd ps sp := ⟨F.len, fun A outer s H args us vs Q E hr => F.run A outer s H args us vs Q E (hr.mono h)⟩
theorem fnG_of {CX : CXT} {P : Program} {w : World} {K : PySem.W.Frag} {mg : Str → Option Value} {base : Heap} {k : Nat} {f : Addr} {name qual : Str} {params : Arguments} {body : List Stmt} {scope : Scope} {dV kV doc pm cdv ct oc : Value} {an od : Option Addr}
    {osl : Array (Option Value)} {N ps : List Str} {sp : Sp} (lk : K.lookup f = some ⟨oc, od, .func (PySem.W.fnOf name qual params body scope dV kV doc pm an cdv ct), osl⟩) (hcd : PySem.W.codeIn K cdv qual = true) (S : FnScope N ps scope)
    (len : ∀ vs H Q E, sp vs H Q E → vs.length = ps.length)
    (hbody : ∀ (A : Around) (outer : List Env) (s : Shared) (H : Hp) (vs : List V) (Q : VK) (E : XK), RoomG k (A.deeper (envOfC qual scope s.heap.objs.size f cdv)) → sp vs H Q E →
      ∃ t, PSs (cxOf CX P w K mg base N qual scope f cdv A outer s H E) body t ∧ t { nx := fun _ H' => Q .non H', rt := Q } (start N vs) H) :
    FnG P w K mg base CX (k + 1) f (PySem.W.fnOf name qual params body scope dV kV doc pm an cdv ct) ps sp := by
  refine ⟨len, fun A outer s H args us vs Q E hr e0 hb r hsp => ?_⟩
  have KX : K.In s.heap := e0.mod.kin.keeps fun b o e => (e0.bs b o e).1
  have lim : s.heap.NoLimit := e0.mod.nolimit.keeps fun b o e => (e0.bs b o e).1
  have hkind : ∀ y ∈ ps.zip us, scope.names.lookup y.1 = some .local ∨ (scope.names.lookup y.1 = some .cell ∧ ((cellsFrom (s.heap.objs.size + 1) scope.names []).lookup y.1).isSome = true) := fun ⟨n, v⟩ hy => by
    rcases S.par n (List.of_mem_zip hy).1 with q | q
    · exact .inl q
    · exact .inr ⟨q, PySem.W.cellsFrom_some _ _ _ (.inl q)⟩
  refine codeAny_call_function hr.rm.depth (KX _ _ lk) rfl S.co S.gen rfl (PySem.W.codeRec_of KX hcd) (hb _ _ _ _ ?_)
  refine wpAny_newFunctionEnv_cells S.kind hkind fun env he s1 x => ?_
  subst he
  refine ⟨lim.keeps x.toInCall.keep, codeAny_func ?_⟩
  obtain ⟨t, ht, hq⟩ := hbody A outer s H vs Q E (hr.deeper _) hsp
  refine wpAny_mono (ht.run [] s1 (start N vs) H _ (inv_start S hr.rm.hd e0 (len _ _ _ _ hsp) r x) hq) (fun fl s' hs => ?_) fun e s' hs => hs
  cases fl with
  | ret u =>
    obtain ⟨v, σ', H', J, rv, q⟩ := hs
    exact ⟨v, H', J.os, J.bare, J.base, J.hok, rv, q⟩
  | next =>
    obtain ⟨σ', H', J, q⟩ := hs
    exact ⟨.non, H', J.os, J.bare, J.base, J.hok, rfl, q⟩
  | brk => obtain ⟨_, _, _, q⟩ := hs; exact False.elim q
  | cont => obtain ⟨_, _, _, q⟩ := hs; exact False.elim q
structure FDx (P : Program) (w : World) (K : PySem.W.Frag) (mg : Str → Option Value) (Tt : List (Addr × Str)) (base : Heap) (d : He.DefD) (ps : List Str) (k : Nat) (F : List D → Hd → Res D) : Prop where
  ex : ∃ fd, FunD K d.name d.qual d.params d.body d.scope (d.dvs K) (d.kws K) (He.fAd K d.at_) fd ∧ FnG P w K mg base (L2.CX P w) k (He.fAd K d.at_) fd ps (spD (rx K mg Tt) ps.length F)
section
variable {Tt : List (Addr × Str)} {P : Program} {w : World} {K : PySem.W.Frag} {mg : Str → Option Value} {base : Heap} {d : He.DefD} {N ps : List Str} {k : Nat}
theorem RelEnv.start {R : Rx} {α : List Addr} {H : Hp} {ds : List D} {vs : List V} (r : RelDs R α H ds vs) : RelEnv R α H (ds.map some ++ List.replicate (N.length - ds.length) none) (L2.start N vs) := by
  have hl := r.length
  unfold L2.start
  refine ⟨by simp [hl], fun i d e => ?_⟩
  by_cases hi : i < ds.length
  · rw [List.getElem?_append_left (by simpa using hi), List.getElem?_map] at e
    cases e2 : ds[i]? with
    | none => rw [e2] at e; cases e
    | some d' =>
      rw [e2] at e
      cases e
      obtain ⟨v, h1, h2⟩ := r.get e2
      exact ⟨v, by rw [List.getElem?_append_left (by rw [List.length_map, ← hl]; exact hi), List.getElem?_map, h1]; rfl, .of h2⟩
  · rw [List.getElem?_append_right (by simpa using hi), List.getElem?_replicate] at e
    split at e <;> cases e
theorem fd_ok (F : ∃ fd, FunD K d.name d.qual d.params d.body d.scope (d.dvs K) (d.kws K) (He.fAd K d.at_) fd) (S : FnScope N ps d.scope) {fb : Fs}
    (hb : ∀ (cdv : Value) (A : Around) (outer : List PySem.Env) (s : Shared) (H : Hp) (E : XK), RoomG k (A.deeper (envOfC d.qual d.scope s.heap.objs.size (He.fAd K d.at_) cdv)) →
      DSs (cxOf (L2.CX P w) P w K mg base N d.qual d.scope (He.fAd K d.at_) cdv A outer s H E) (rx K mg Tt) (fun cls dd _ H => E cls dd H) d.body fb) : FDx P w K mg Tt base d ps (k + 1) (runF N.length fb) := by
  obtain ⟨fd, F⟩ := F
  obtain ⟨oc, od, dV, kV, doc, pm, an, cdv, ct, osl, e, lk, hcd, _, _⟩ := id F.ex
  refine ⟨fd, F, ?_⟩
  subst e
  refine fnG_of lk hcd S (fun vs H Q E h => h.1) fun A outer s H vs Q E hr h => ⟨_, hb cdv A outer s H E hr, ?_⟩
  obtain ⟨_, α, ds, hp, rd, rh, f⟩ := h
  refine ⟨α, _, hp, RelEnv.start rd, rh, ?_⟩
  unfold runF at f
  cases eb : fb (ds.map some ++ List.replicate (N.length - ds.length) none) hp with
  | nx env h' => rw [eb] at f; exact fun α1 H1 σ1 x1 rh1 _ => f α1 H1 .non x1 rh1 .non
  | rt d h' => rw [eb] at f; exact f
  | ex e env h' => rw [eb] at f; exact fun α1 H1 σ1 cls dd x1 rh1 _ rx => f α1 H1 cls dd x1 rh1 rx
  | bk env h' => rw [eb] at f; exact (show False from f).elim
  | ct env h' => rw [eb] at f; exact (show False from f).elim
  | no => rw [eb] at f; exact f
end
/-- a call of a def -/
@[simp] def eCall (F : List D → Hd → Res D) (fa : Fa) : Fe := fun env h => (fa env h).bind F
@[simp] def eCallK (F : List D → Hd → Res D) (g : List D → List D → List D) (fa fk : Fa) : Fe := fun env h => (fa env h).bind fun ds h1 => (fk env h1).bind fun ws h2 => F (g ds ws) h2
/-- how a call's values come to the parameters -/
structure Bnd (K : PySem.W.Frag) (fd : FuncData) (ps : List Str) (n : Nat) (ks : List Str) (gD : List D → List D → List D) : Prop where
  ex : ∃ g gV, KBn K fd ps n ks g gV ∧ (∀ vs zs, vs.length = n → zs.length = ks.length → (gV vs zs).length = ps.length) ∧ ∀ (R : Rx) α H ds vs ws zs, RelDs R α H ds vs → RelDs R α H ws zs → RelDs R α H (gD ds ws) (gV vs zs)
abbrev DK (X : Cx) (R : Rx) (W : WX) (kws : List Keyword) (f : Fa) : Prop := PK X kws (tA R W f)
section
variable {Tt : List (Addr × Str)} {X : Cx} {W : WX} {pos : Pos} {d : He.DefD} {ps ks : List Str} {k n : Nat} {F : List D → Hd → Res D} {x : Str} {p : Pos} {e : Expr} {es : List Expr} {kws : List Keyword} {fa fk : Fa} {gD : List D → List D → List D}
theorem dk_nil : DK X (rx X.K X.mg Tt) W [] aNil := by
  refine ⟨fun pos pins s σ H Q I h => pk_nil.run pos pins s σ H Q I ?_⟩
  obtain ⟨α, env, hp, re, rh, fi⟩ := h
  exact fi α H [] .refl rh .nil
theorem dk_cons {nm : Option Str} {kpos : Pos} {fe : Fe} (ha : DE X (rx X.K X.mg Tt) W e fe) (hr : DK X (rx X.K X.mg Tt) W kws fa) : DK X (rx X.K X.mg Tt) W (⟨nm, e, kpos⟩ :: kws) (aCons fe fa) := by
  refine ⟨fun pos pins s σ H Q I h => (pk_cons ha hr).run pos pins s σ H Q I ?_⟩
  obtain ⟨α, env, hp, re, rh, fi⟩ := h
  refine ⟨α, env, hp, re, rh, (Fin.split fi).imp fun v H1 hq => ?_⟩
  obtain ⟨d, α1, h1, _, x1, rh1, r1, f1⟩ := hq
  refine ⟨α1, env, h1, re.ext x1, rh1, (Fin.split f1).imp fun vs H2 hq => ?_⟩
  obtain ⟨ds, α2, h2, _, x2, rh2, r2, f2⟩ := hq
  exact f2 α2 H2 _ .refl rh2 (.cons (RelD.ext x2 _ _ r1) r2)
theorem run_fd {pins : List (Addr × Obj)} {σ : St} {H : Hp} {s : Shared} {Q : VK} {us ws : List Value} {vs zs : List V} {ds dz : List D} {α : List Addr} {h : Hd} {fd : FuncData} {f : Addr} (Fk : FnG X.prog X.w X.K X.mg X.base (L2.CX X.prog X.w) k f fd ps (spD (rx X.K X.mg Tt) ps.length F)) (hr : RoomG k X.A)
    (hb : Bnd X.K fd ps n ks gD) (tk : Takes X W) (I : Inv X pins σ H s) (r : Vals vs us) (rz : Vals zs ws) (l1 : vs.length = n) (l2 : zs.length = ks.length) (rd : RelDs (rx X.K X.mg Tt) α H ds vs) (rdz : RelDs (rx X.K X.mg Tt) α H dz zs) (rh : RH (rx X.K X.mg Tt) α h H)
    (fi : FinE (rx X.K X.mg Tt) W α H σ (F (gD ds dz) h) Q) : wpAny (model X.prog X.w) X.A (call (.ref f) us (ks.zip ws)) (EP X pins σ Q) X.xe s := by
  obtain ⟨g, gV, kb, hl, hrel⟩ := hb.ex
  have r2 := kb.rel r rz
  have sp : spD (rx X.K X.mg Tt) ps.length F (gV vs zs) H Q (fun cls dd H' => W cls dd σ H') := by
    refine ⟨hl vs zs l1 l2, α, gD ds dz, h, hrel _ _ _ _ _ _ _ rd rdz, rh, ?_⟩
    cases eF : F (gD ds dz) h with
    | ok d h' => rw [eF] at fi; exact fi
    | ex e h' => rw [eF] at fi; exact fi
    | no => rw [eF] at fi; exact fi
  refine wpAny_call (codeAny_mono (Fk.run X.A X.stack s H ⟨us, ks.zip ws⟩ (g us ws) (gV vs zs) Q (fun cls dd H' => W cls dd σ H') hr I.env0 (kb.to s us ws I.kIn (r.length.symm.trans l1) (rz.length.symm.trans l2)) r2 sp) fun r s' hq => ?_)
  cases r with
  | error e => exact tk e s' (XE.of_call I (fun _ _ _ h => h) hq)
  | ok fl =>
    cases fl with
    | ret u => exact I.after hq
    | next => exact False.elim hq
    | brk => exact False.elim hq
    | cont => exact False.elim hq
theorem de_call (hF : FDx X.prog X.w X.K X.mg Tt X.base d ps k F) (hr : RoomG k X.A) (hg : Gl X x) (hm : X.mg x = some (.ref (He.fAd X.K d.at_))) (tk : Takes X W)
    (hb : ∀ fd, FunD X.K d.name d.qual d.params d.body d.scope (d.dvs X.K) (d.kws X.K) (He.fAd X.K d.at_) fd → Bnd X.K fd ps (e :: es).length [] (fun ds _ => gD ds [])) (ha : DA X (rx X.K X.mg Tt) W (e :: es) fa) (hlen : ∀ env h ds h1, fa env h = .ok ds h1 → ds.length = (e :: es).length)
    (hdb : (x == ("__debug__" : Str)) = false := by decide) (he : starEach (e :: es) X.env = (false, eval e X.env) :: starEach es X.env := by rfl) (hpl : (backTo pos (starEach es X.env)).any (·.1) = false := by rfl) :
    DE X (rx X.K X.mg Tt) W (.Call (.Name x p) (e :: es) [] pos) (eCall (fun ds => F (gD ds [])) fa) := by
  refine ⟨fun pins s σ H Q I h => ?_⟩
  obtain ⟨fd, FD, Fk⟩ := hF.ex
  obtain ⟨α, env, hp, re, rh, fi⟩ := h
  refine wpAny_Call_Name_kw (ld_glob I hg hm ?_ hdb)
  refine PySem.W.callWith_K (h₀ := X.base) I.ok.mod.kin FD.kp (thn (ha.run pos pins s σ H _ I ⟨α, env, hp, re, rh, Fin.split (g := fun ds => F (gD ds [])) fi⟩) fun us s1 ⟨vs, H1, I1, r, q⟩ => ⟨I1.kIn, ?_⟩) he hpl
  obtain ⟨ds, α1, h1, e1, x1, rh1, rd1, f1⟩ := q
  exact run_fd (ws := []) (zs := []) (dz := []) Fk hr (hb fd FD) tk I1 r .nil (rd1.length.symm.trans (hlen _ _ _ _ e1)) rfl rd1 .nil rh1 f1
theorem de_call0 (hF : FDx X.prog X.w X.K X.mg Tt X.base d ps k F) (hr : RoomG k X.A) (hg : Gl X x) (hm : X.mg x = some (.ref (He.fAd X.K d.at_))) (tk : Takes X W)
    (hb : ∀ fd, FunD X.K d.name d.qual d.params d.body d.scope (d.dvs X.K) (d.kws X.K) (He.fAd X.K d.at_) fd → Bnd X.K fd ps 0 [] (fun ds _ => gD ds []))
    (hdb : (x == ("__debug__" : Str)) = false := by decide) :
    DE X (rx X.K X.mg Tt) W (.Call (.Name x p) [] [] pos) (eCall (fun ds => F (gD ds [])) aNil) := by
  refine ⟨fun pins s σ H Q I h => ?_⟩
  obtain ⟨fd, FD, Fk⟩ := hF.ex
  obtain ⟨α, env, hp, re, rh, fi⟩ := h
  refine wpAny_Call_Name_kw (ld_glob I hg hm ?_ hdb)
  exact PySem.W.callWith_K0 I.kIn FD.kp (run_fd (us := []) (ws := []) (vs := []) (zs := []) (ds := []) (dz := []) Fk hr (hb fd FD) tk I .nil .nil rfl rfl .nil .nil rh fi)
theorem de_callK (hF : FDx X.prog X.w X.K X.mg Tt X.base d ps k F) (hr : RoomG k X.A) (hg : Gl X x) (hm : X.mg x = some (.ref (He.fAd X.K d.at_))) (tk : Takes X W)
    (hb : ∀ fd, FunD X.K d.name d.qual d.params d.body d.scope (d.dvs X.K) (d.kws X.K) (He.fAd X.K d.at_) fd → Bnd X.K fd ps (e :: es).length ks gD) (ha : DA X (rx X.K X.mg Tt) W (e :: es) fa) (hlen : ∀ env h ds h1, fa env h = .ok ds h1 → ds.length = (e :: es).length)
    (hkw : DK X (rx X.K X.mg Tt) W kws fk) (hlenk : ∀ env h ds h1, fk env h = .ok ds h1 → ds.length = ks.length) (hall : (backToKw pos (keywordEach kws X.env)).all (·.1.isSome) = true := by rfl) (hks : (backToKw pos (keywordEach kws X.env)).filterMap (·.1) = ks := by rfl)
    (hdb : (x == ("__debug__" : Str)) = false := by decide) (he : starEach (e :: es) X.env = (false, eval e X.env) :: starEach es X.env := by rfl)
    (hpl : ((backTo pos (starEach (e :: es) X.env)).any (·.1) || (backToKw pos (keywordEach kws X.env)).any (·.1.isNone)) = false := by rfl) :
    DE X (rx X.K X.mg Tt) W (.Call (.Name x p) (e :: es) kws pos) (eCallK F gD fa fk) := by
  refine ⟨fun pins s σ H Q I h => ?_⟩
  obtain ⟨fd, FD, Fk⟩ := hF.ex
  obtain ⟨α, env, hp, re, rh, fi⟩ := h
  refine wpAny_Call_Name_kw (ld_glob I hg hm ?_ hdb)
  refine PySem.W.callWith_KW (h₀ := X.base) I.ok.mod.kin FD.kp hall (thn (ha.run pos pins s σ H _ I ⟨α, env, hp, re, rh, Fin.split (g := fun ds h1 => (fk env h1).bind fun ws h2 => F (gD ds ws) h2) fi⟩) fun us s1 ⟨vs, H1, I1, r, q⟩ => ?_) hpl he
  obtain ⟨ds, α1, h1, e1, x1, rh1, rd1, f1⟩ := q
  refine thn (hkw.run pos pins s1 σ H1 _ I1 ⟨α1, env, h1, re.ext x1, rh1, Fin.split f1⟩) fun ws s2 ⟨zs, H2, I2, rz, q2⟩ => ⟨I2.kIn, ?_⟩
  obtain ⟨dz, α2, h2, e2, x2, rh2, rd2, f2⟩ := q2
  rw [hks]
  exact run_fd Fk hr (hb fd FD) tk I2 r rz (rd1.length.symm.trans (hlen _ _ _ _ e1)) (rd2.length.symm.trans (hlenk _ _ _ _ e2)) (RelDs.ext x2 _ _ rd1) rd2 rh2 f2
theorem de_callK0 (hF : FDx X.prog X.w X.K X.mg Tt X.base d ps k F) (hr : RoomG k X.A) (hg : Gl X x) (hm : X.mg x = some (.ref (He.fAd X.K d.at_))) (tk : Takes X W)
    (hb : ∀ fd, FunD X.K d.name d.qual d.params d.body d.scope (d.dvs X.K) (d.kws X.K) (He.fAd X.K d.at_) fd → Bnd X.K fd ps 0 ks gD)
    (hkw : DK X (rx X.K X.mg Tt) W kws fk) (hlenk : ∀ env h ds h1, fk env h = .ok ds h1 → ds.length = ks.length) (hall : (backToKw pos (keywordEach kws X.env)).all (·.1.isSome) = true := by rfl) (hks : (backToKw pos (keywordEach kws X.env)).filterMap (·.1) = ks := by rfl)
    (hdb : (x == ("__debug__" : Str)) = false := by decide)
    (hpl : ((backTo pos (starEach [] X.env)).any (·.1) || (backToKw pos (keywordEach kws X.env)).any (·.1.isNone)) = false := by rfl) :
    DE X (rx X.K X.mg Tt) W (.Call (.Name x p) [] kws pos) (eCallK F gD aNil fk) := by
  refine ⟨fun pins s σ H Q I h => ?_⟩
  obtain ⟨fd, FD, Fk⟩ := hF.ex
  obtain ⟨α, env, hp, re, rh, fi⟩ := h
  refine wpAny_Call_Name_kw (ld_glob I hg hm ?_ hdb)
  refine PySem.W.callWith_KW0 (h₀ := X.base) I.ok.mod.kin FD.kp hall (thn (hkw.run pos pins s σ H _ I ⟨α, env, hp, re, rh, Fin.split (r := fk env hp) fi⟩) fun ws s2 ⟨zs, H2, I2, rz, q2⟩ => ⟨I2.kIn, ?_⟩) hpl
  obtain ⟨dz, α2, h2, e2, x2, rh2, rd2, f2⟩ := q2
  rw [hks]
  exact run_fd (us := []) (vs := []) (ds := []) Fk hr (hb fd FD) tk I2 .nil rz rfl (rd2.length.symm.trans (hlenk _ _ _ _ e2)) .nil rd2 rh2 f2
end
end Mi

set_option Elab.async false
set_option linter.all false
set_option maxRecDepth 100000
set_option maxHeartbeats 1000000
/-! ### own exception classes whose __init__ calls a base's and keeps one field -/
namespace MiX
open PySem PySem.W PySem.Calls PyProof.Rows PySem.HandSPX
def iA (f : Str) (dfl : List Expr) (p1 p2 : Pos) : Arguments := { posonlyargs := [], args := [{ arg := "self", annotation := none, pos := p1 }, { arg := f, annotation := none, pos := p2 }], vararg := none, kwonlyargs := [], kw_defaults := [], kwarg := none, defaults := dfl }
def iB (f b msg : Str) (j : Nat) (q1 q2 q3 q4 q5 q6 r1 r2 r3 r4 : Pos) : List Stmt :=
  [.Expr (.Call (.Attribute (.Name b q1) "__init__" q2) [.Name "self" q3, .Constant (.str msg) j q4] [] q5) q6, .Assign [.Attribute (.Name "self" r1) f r2] (.Name f r3) r4]
def iS (f b : Str) : Scope := { kind := .function, names := [(PySem.Str.ofString "self", .local), (f, .local), (b, .globalImplicit)], isGenerator := false, isCoroutine := false, more := [] }
/-- a built-in base -/
structure XBase (B newId initId : String) (bmB : List Value) : Prop where
  F : ExcBaseFacts B newId initId bmB
  hh : handedIn (.builtin initId) = true
  S : StoreFacts B bmB "object.__setattr__" "object"
/-- the base as the text names it: an own class without __init__, or the built-in one -/
def BaseOk (K : Frag) (mg : Str → Option Value) (b : Str) (initId : String) : Prop :=
  (∃ CB, mg b = some (.ref CB) ∧ specialIn K (.ref CB) "__getattribute__" = some (some (.builtin "type.__getattribute__")) ∧ readsIn K CB (.type "type") = true ∧ findCls K (.ref CB) (.type "type") "__init__" = some (.val (.builtin initId))) ∨
  (∃ T, mg b = none ∧ bootBuiltins b = some (.type T) ∧ b ≠ "__name__" ∧ typeOf (.type T) = pure (.type "type") ∧ Manifest.isStub T = false ∧ findCls K (.type T) (.type "type") "__init__" = some (.val (.builtin initId)))
structure XcTxt (K : Frag) (mg : Str → Option Value) (c f b : Str) (C fI : Addr) (newId initId : String) (bmB : List Value) : Prop where
  gC : mg c = some (.ref C)
  ei : excInitIn K C bmB newId = true
  hd : hasDictIn K C = true
  sa : findIn K (.ref C) "__setattr__" = some (some (.builtin "object.__setattr__"))
  ga : findIn K (.ref C) "__getattribute__" = some (some (.builtin "BaseException.__getattribute__"))
  gg : findIn K (.ref C) "__getattr__" = some none
  noN : findIn K (.ref C) f = some none
  iC : findIn K (.ref C) "__init__" = some (some (.ref fI))
  tC : typeIn K (.ref fI) = some (.type "function")
  kC : keepIn K (.ref C) = true
  exC : subIn K (.ref C) (.type "BaseException") = some true
  tyC : typeIn K (.ref C) = some (.type "type")
  fd_ : (f == ("__debug__" : Str)) = false
  fs_ : f ≠ "self"
  bd_ : (b == ("__debug__" : Str)) = false
  bs_ : b ≠ "self"
  bf_ : b ≠ f
  base : BaseOk K mg b initId
  fn : ∃ (qual msg : Str) (dfl : List Expr) (j : Nat) (p1 p2 q1 q2 q3 q4 q5 q6 r1 r2 r3 r4 : Pos) (dvs : List L2.V) (fd : FuncData), L2.FunD K "__init__" qual (iA f dfl p1 p2) (iB f b msg j q1 q2 q3 q4 q5 q6 r1 r2 r3 r4) (iS f b) dvs [] fI fd ∧
    (∀ env : Env, ∃ pl, eval (.Call (.Attribute (.Name b q1) "__init__" q2) [.Name "self" q3, .Constant (.str msg) j q4] [] q5) env = (do
      let ov ← eval (.Name b q1) env
      standAt q2.atName
      let (f, first) ← holding [ov] (getMethod ov "__init__" pl)
      callWith q5 f first (backTo q5 (starEach [.Name "self" q3, .Constant (.str msg) j q4] env)) (backToKw q5 (keywordEach [] env)))) ∧
    ∀ us : List Value, us.length = 2 → ∀ s : Shared, K.In s.heap → BindsTo s fd ⟨us, []⟩ ((["self", f] : List Str).zip us)
theorem exc_cls {K : Frag} {C : Addr} {bmB : List Value} {newId : String} (q : excInitIn K C bmB newId = true) : ∃ nm N qn bs bm hdct sn sub ab col dd k0 k1 k2 k3 k5,
    K.lookup C = some (excClassObj nm qn C N bs bm hdct sn sub ab col dd k0 k1 k2 k3 k5 newId) ∧ excTail bmB bm = true := by
  unfold excInitIn at q
  split at q
  · rename_i dd cd sl ho
    split at q
    · rename_i C' bm k0 k1 k2 k3 n k5 hm hs
      simp only [Bool.and_eq_true, beq_iff_eq, Bool.not_eq_true'] at q
      obtain ⟨⟨⟨rfl, rfl⟩, hdel⟩, ht⟩ := q
      obtain ⟨nm, bs, mro, ns, qn, hd, sn, sub, ab, col, del⟩ := cd
      dsimp only at hm hdel
      subst hm hdel
      have hsl : sl = #[k0, k1, k2, k3, some (.builtin n), k5] := by
        obtain ⟨l⟩ := sl
        simp only at hs
        rw [hs]
      subst hsl
      exact ⟨nm, ns, qn, bs, bm, hd, sn, sub, ab, col, dd, k0, k1, k2, k3, k5, ho, ht⟩
    · cases q
  · cases q
section
variable {prog : Program} {w : World} {A : Around} {E : Value → Shared → Prop} {R : Result → Shared → Prop} {hp : Heap} {g : Array GenState} {d : Drawn} {t : Nat} {os : OsState}
/-- self.f = v on such an exception without a dict as yet -/
theorem osa_new {K : W.Frag} {B : String} {bmB : List Value} {name : Str} {tk : Tok} {v : Value} {x C : Addr} {fv : Array Value} {cd : ClassData} (SB : StoreFacts B bmB "object.__setattr__" "object")
    (X : K.In hp) (hx : hp.get? x = some { cls := .ref C, data := .fields fv }) (hcd : W.clsIn K C = some cd) (hm : ∃ bm, cd.mro = .ref C :: bm ∧ excTail bmB bm = true) (hh : cd.hasDict = true) (ha : W.findIn K (.ref C) name = some none)
    (hq : ∀ h' tk' dx, (∀ b o, b ≠ x → hp.get? b = some o → h'.get? b = some o) → hp.objs.size ≤ dx → dx ≠ x → h'.get? x = some { cls := .ref C, dict := some dx, data := .fields fv } →
      h'.Ns1 dx (fun y => if y = name then some v else none) → R (.ok (.ret .none)) ⟨h', g, d, tk', os⟩) :
    codeAny (model prog w) A (.call (.builtin "object.__setattr__") ⟨[.ref x, .str name tk, v], []⟩) R ⟨hp, g, d, t, os⟩ := by
  obtain ⟨bm, hmro, htl⟩ := hm
  have I : W.InstAt hp x { cls := .ref C, data := .fields fv } C none := ⟨hx, rfl, rfl, trivial⟩
  have SF := F.store_object
  have ne : cd.mro.isEmpty = false := by rw [hmro]; rfl
  have hob : cd.mro.contains (.type "object") = true := by rw [hmro, List.contains_cons, excTail_contains "object" _ htl, SB.hasOwner, Bool.or_true]
  have hxs : x ≠ hp.objs.size := Nat.ne_of_lt (Heap.lt_size hx)
  have sub : W.Looks (model prog w) hp (isInstance (.ref x) (.type "object")) true := I.type.andThen (W.looks_mroIn X (by unfold W.mroIn; rw [hcd, Option.bind_some, if_neg (by rw [ne]; decide), hob]))
  refine codeAny_call_builtin SF.slot.plain SF.entry (@W.check_slot (model prog w) _ _ ⟨hp, g, d, t, os⟩ "object.__setattr__" "object" "__setattr__" (.ref x) [.str name tk, v] [] _ SF.kind SF.split sub (SF.args (.ref x) (.str name tk) v) ?_)
  have hmr : W.Looks (model prog w) hp (mroOf (.ref C)) cd.mro := (W.looks_clsIn X hcd).andThen .now
  have L3 : W.Looks (model prog w) hp (Builtin.ObjectAttr.storeTaker? none) none := .now
  have hcls : W.Looks (model prog w) hp (classData C) cd := W.looks_clsIn X hcd
  have hpass : refuseLoop (.ref x) "__setattr__" cd.mro = pure () := by rw [hmro, refuseLoop_ref]; exact excTail_pass _ (SB.passes _) _ htl
  rw [W.osa_eq, refuse_eq]
  refine wpAny_bind (wpAny_bind (I.type.at (wpAny_bind (hmr.at ?_))))
  rw [hpass]
  refine wpAny_pure (wpAny_bind (I.type.at (wpAny_bind ((W.looks_findIn X ha).at (wpAny_bind (L3.at ?_))))))
  show wpAny _ _ (Builtin.ObjectAttr.storeInOwnDict (.ref x) (.ref C) (.str name tk) name v false) _ _ _
  obtain ⟨nm, bs, mro, ns, qn, hd, sn, sb, ab, col, del⟩ := cd
  dsimp only at hh
  subst hh
  unfold Builtin.ObjectAttr.storeInOwnDict Builtin.ObjectAttr.ownDictForStores
  repeat (first | with_reducible refine store_in_new ?_ ?_ | with_reducible refine wpAny_loadPart_at hx ?_ | with_reducible refine hcls.at ?_ | wp_step)
  · exact ⟨_, #[], _, (Heap.get?_update_ne _ _ _ _ hxs.symm).trans (Heap.get?_push_at rfl rfl), rfl, fun e he => absurd he (by simp), fun _ => rfl⟩
  · intro h' tk' hn' hs
    have hx₁ : (hp.push { cls := .type "dict", data := .dict #[] }).get? x = some { cls := .ref C, data := .fields fv } := Heap.get?_push_of_some _ hx
    refine hq h' tk' hp.objs.size (fun b o hb ho => ?_) (Nat.le_refl _) hxs.symm ?_ hn'
    · exact (hs.2 b (Nat.ne_of_lt (Heap.lt_size ho))).trans ((Heap.get?_update_ne _ _ _ _ hb).trans (Heap.get?_push_of_some _ ho))
    · exact (hs.2 x hxs).trans (Heap.get?_update_self _ hx₁ rfl)

/-- what __init__ leaves of a fresh exception at x -/
structure XInit (h h' : Heap) (x C dx : Addr) (f : Str) (v : Value) : Prop where
  keep : ∀ b o, b ≠ x → h.get? b = some o → h'.get? b = some o
  obj : ∃ t1 : Addr, h'.get? x = some { cls := .ref C, dict := some dx, data := .fields #[.ref t1, .none, .none, .none, .bool false, .none] }
  dbig : h.objs.size ≤ dx
  dne : dx ≠ x
  ns : h'.Ns1 dx (fun y => if y = f then some v else none)
structure XMade (h h' : Heap) (e C d : Addr) (f : Str) (v : Value) : Prop where
  keep : ∀ b o, h.get? b = some o → h'.get? b = some o
  new : h.objs.size ≤ e
  obj : ∃ oe vs, h'.get? e = some oe ∧ oe.cls = .ref C ∧ oe.dict = some d ∧ oe.data = .fields vs ∧ vs[1]? = some .none
  dbig : h.objs.size ≤ d
  dne : d ≠ e
  ns : h'.Ns1 d (fun y => if y = f then some v else none)
theorem kept_but {K : Frag} {h h' : Heap} {x : Addr} (X : K.In h) (hx : K.lookup x = none) (k : ∀ b o, b ≠ x → h.get? b = some o → h'.get? b = some o) : K.In h' := fun a o e =>
  k a o (fun z => by rw [z, hx] at e; cases e) (X a o e)
theorem ldL {M : Model} {s : Shared} {qual : Str} {scope : Scope} {L a : Addr} {cd : Value} {m : Str → Option Value} {x : Str} {pos : Pos} {v : Value} {Q : Value → Shared → Prop} {A : Around} {E : Value → Shared → Prop} (hn : s.heap.Ns L m) (hv : m x = some v) (h : Q v s)
    (hk : scope.kind = .function) (hl : scope.names.lookup x = some .local) (hd : (x == ("__debug__" : Str)) = false) :
    wpAny M A (eval (.Name x pos) (envOfC qual scope L a cd)) Q E s := wpAny_Name (wpAny_loadName_local hk hl hn hv h) hd
section
variable {prog : Program} {w : World} {A : Around} {E : Value → Shared → Prop} {R : Result → Shared → Prop} {s : Shared} {K : Frag} {mg : Str → Option Value} {C fI : Addr} {c f b : Str} {B newId initId : String} {bmB : List Value}
theorem look_self {f b : Str} : (iS f b).names.lookup ("self" : Str) = some .local := by
  show List.lookup ("self" : Str) ((("self" : Str), NameKind.local) :: _) = _
  rw [List.lookup_cons, beq_self_eq_true]
theorem look_f {f b : Str} (h : f ≠ "self") : (iS f b).names.lookup f = some .local := by
  show List.lookup f ((("self" : Str), NameKind.local) :: (f, .local) :: _) = _
  have e : (f == ("self" : Str)) = false := by simpa using h
  rw [List.lookup_cons, e, List.lookup_cons, beq_self_eq_true]
theorem look_b {f b : Str} (h : b ≠ "self") (h2 : b ≠ f) : (iS f b).names.lookup b = some .globalImplicit := by
  show List.lookup b ((("self" : Str), NameKind.local) :: (f, .local) :: [(b, .globalImplicit)]) = _
  have e : (b == ("self" : Str)) = false := by simpa using h
  have e2 : (b == f) = false := by simpa using h2
  rw [List.lookup_cons, e, List.lookup_cons, e2, List.lookup_cons, beq_self_eq_true]
theorem x_init (XB : XBase B newId initId bmB) (T : XcTxt K mg c f b C fI newId initId bmB) {x t0 : Addr} {v : Value} (X : K.In s.heap) (hlim : s.heap.NoLimit) (G : s.heap.Ns mainGlobals mg) (BL : ∃ mb, s.heap.Ns builtinsNs mb ∧ ∀ x : Str, x ≠ "__name__" → mb x = bootBuiltins x)
    (hx : s.heap.get? x = some (excO C t0)) (hnx : K.lookup x = none) (hroom : A.depth < recursionLimit) (hgx : x ≠ mainGlobals)
    (hq : ∀ h' tk dx, XInit s.heap h' x C dx f v → R (.ok (.ret .none)) { s with heap := h', toks := tk }) :
    codeAny (model prog w) A (.call (.ref fI) ⟨[.ref x, v], []⟩) R s := by
  obtain ⟨qual, msg, dfl, j, p1, p2, q1, q2, q3, q4, q5, q6, r1, r2, r3, r4, dvs, fd, FD, hcall, hbind⟩ := T.fn
  obtain ⟨oc, od, dV, kV, doc, pm, an, cdv, ct, osl, rfl, ho, hcd, _, _⟩ := FD.ex
  obtain ⟨nm, N, q, bs, bm, hdct, sn, sub, ab, col, dd, k0, k1, k2, k3, k5, hC, hbm⟩ := exc_cls T.ei
  have hcl : clsIn K C = some { name := nm, bases := bs, mro := .ref C :: bm, ns := N, qualname := q, hasDict := hdct, slotNames := sn, subclasses := sub, abstract := ab, collection := col, hasDel := false } := by unfold clsIn; rw [hC] <;> rfl
  have hhd : hdct = true := by
    have := T.hd
    unfold hasDictIn at this
    rw [hcl] at this
    exact this
  subst hhd
  have e1 : (f == ("self" : Str)) = false := by simpa using T.fs_
  refine Att.call_fn (binds := [("self", .ref x), (f, v)]) X hlim ho hcd hroom (hbind [.ref x, v] rfl s X) ?_ (fun s₁ IC => ?_) rfl rfl rfl
  · show (((iS f b).names.lookup ("self" : Str) == some .local || _) && (((iS f b).names.lookup f == some .local || _) && true)) = true
    rw [look_self, look_f T.fs_]
    rfl
  obtain ⟨h₁, tk₁, rfl⟩ := IC.toInCall.same
  have k : ∀ b o, s.heap.get? b = some o → h₁.get? b = some o := IC.toInCall.keep
  have hn := IC.toInCall.ns
  have hxL : s.heap.objs.size ≠ x := Nat.ne_of_gt (Heap.lt_size hx)
  have X₁ : K.In h₁ := X.keeps k
  have hx₁ := k _ _ hx
  have G₁ : h₁.Ns mainGlobals mg := G.keeps k
  obtain ⟨mb, B1, B2⟩ := BL
  have B₁ : h₁.Ns builtinsNs mb := B1.keeps k
  have mS : (bindL (envOfC qual (iS f b) s.heap.objs.size fI cdv).kindOf [("self", .ref x), (f, v)] fun _ => none) "self" = some (.ref x) := by
    have := L2.bindL_get (kindOf := (envOfC qual (iS f b) s.heap.objs.size fI cdv).kindOf) (P := [("self" : Str), f]) (vs := [.ref x, v]) (i := 0) (x := ("self" : Str)) (v := .ref x) (m := fun _ => none) (by simp [Ne.symm T.fs_]) rfl rfl look_self
    exact this
  have mF : (bindL (envOfC qual (iS f b) s.heap.objs.size fI cdv).kindOf [("self", .ref x), (f, v)] fun _ => none) f = some v := by
    have := L2.bindL_get (kindOf := (envOfC qual (iS f b) s.heap.objs.size fI cdv).kindOf) (P := [("self" : Str), f]) (vs := [.ref x, v]) (i := 1) (x := f) (v := v) (m := fun _ => none) (by simp [Ne.symm T.fs_]) rfl rfl (look_f T.fs_)
    exact this
  -- B.__init__(self, msg)
  show wpAny _ _ (execs _ _) _ _ _
  refine wpAny_execs_cons (wpAny_Expr_any ?_)
  obtain ⟨pl, hcl2⟩ := hcall (envOfC qual (iS f b) s.heap.objs.size fI cdv)
  refine PySem.W.methodCall_KW (pl := pl) ?_ hcl2
  have ldB : ∀ {Q : Value → Shared → Prop} {E' : Value → Shared → Prop}, (∀ ov, (∀ (s2 : Shared) (Q2 : Value × List Value → Shared → Prop) (E2 : Value → Shared → Prop), s2.heap = h₁ → Q2 (.builtin initId, []) { s2 with toks := s2.toks + 1 } → wpAny (model prog w) (A.deeper (envOfC qual (iS f b) s.heap.objs.size fI cdv)) (getMethod ov "__init__" pl) Q2 E2 s2) → Q ov { s with heap := h₁, toks := tk₁ }) →
      wpAny (model prog w) (A.deeper (envOfC qual (iS f b) s.heap.objs.size fI cdv)) (eval (.Name b q1) (envOfC qual (iS f b) s.heap.objs.size fI cdv)) Q E' { s with heap := h₁, toks := tk₁ } := fun {Q E'} hQ => by
    rcases T.base with ⟨CB, m1, m2, m3, m4⟩ | ⟨T', m1, m2, m3, m4, m5, m6⟩
    · refine Calls.Name_function_global rfl (look_b T.bs_ T.bf_) (Calls.loadGlobal_global G₁ m1 (hQ _ fun s2 Q2 E2 eh hq2 => ?_)) T.bd_
      have X2 : K.In s2.heap := by rw [eh]; exact X₁
      exact method_cls X2 m2 (cls_value X2 m3 m4 XB.hh hq2)
    · refine Calls.Name_function_global rfl (look_b T.bs_ T.bf_) (Calls.loadGlobal_builtin G₁ m1 B₁ ((B2 b m3).trans m2) (hQ _ fun s2 Q2 E2 eh hq2 => ?_)) T.bd_
      have X2 : K.In s2.heap := by rw [eh]; exact X₁
      have LO : Looks (model prog w) s2.heap (opaqueClassAbove (.type T')) none := Looks.of_pure (by unfold opaqueClassAbove; dsimp only; rw [m5]; rfl)
      have L0 : Looks (model prog w) s2.heap (typeOf (.type T')) (.type "type") := Looks.of_pure m4
      have hg : findIn K (.type "type") "__getattribute__" = some (some (.builtin "type.__getattribute__")) := type_tga
      unfold getMethod specialOf
      refine wpAny_bind (wpAny_bind (L0.here ((looks_findIn X2 hg).here ?_)))
      dsimp only
      rw [if_pos canon_tga]
      refine wpAny_bind (wpAny_mono (Q := fun v => Q2 (v, [])) (E := E2) ?_ (fun _ _ z => wpAny_pure z) fun _ _ z => z)
      exact cls_open X2 LO L0 hg (looks_hook X2 (r := none) (by rfl)) (by show subIn K _ _ = _; rfl) m6
        (wpAny_pure (by show wpAny _ _ (handedOut _) _ _ _; rw [handedOut_of XB.hh]; exact wpAny_pure hq2))
  refine ldB fun ov hov => hov _ _ _ rfl ?_
  show wpAny _ _ (callWith q5 (Value.builtin initId) [] (backTo q5 (starEach [.Name "self" q3, .Constant (.str msg) j q4] _)) []) _ _ _
  refine PyProof.Rows.callWith_method1 (Calls.spliced_cons (ldL hn mS (Calls.spliced_cons (Calls.Constant_str (pos := q4) (k := j) (Calls.spliced_nil ?_))) rfl look_self (by decide))) (by rfl) (by rfl)
  show wpAny _ _ (call (.builtin initId) [.ref x, .str msg _]) _ _ _
  refine wpAny_call (init_base XB.F (fun Y => excTail_contains Y bm hbm) (X₁ _ _ hC) hx₁ (by rw [sizeLine_eq]; exact (by decide : 1 ≤ 16777216)) fun h₂ t1 k₂ hx₂ => ?_)
  -- self.f = f
  have X₂ : K.In h₂ := kept_but X₁ hnx k₂
  have hn₂ : h₂.Ns s.heap.objs.size _ := hn.at fun o e => k₂ _ o hxL e
  show wpAny _ _ (execs _ _) _ _ _
  refine wpAny_execs_cons (plainObj_wpAny_Assign_Attribute ?_)
  refine ldL hn₂ mF (ldL hn₂ mS ?_ rfl look_self (by decide)) rfl (look_f T.fs_) T.fd_
  refine set_plain X₂ (ox := excO C t1) (od := none) ⟨hx₂, rfl, rfl, trivial⟩ T.sa ?_
  refine osa_new XB.S X₂ hx₂ hcl ⟨bm, rfl, hbm⟩ rfl T.noN (fun h₃ tk₃ dx k₃ dn dne hx₃ hn₃ => ?_)
  show wpAny _ _ (execs _ _) _ _ _
  have z : s.heap.objs.size < h₂.objs.size := hn₂.lt
  exact wpAny_execs_nil (hq h₃ tk₃ dx ⟨fun b o hb e => k₃ b o hb (k₂ b o hb (k b o e)), ⟨_, hx₃⟩, Nat.le_of_lt (Nat.lt_of_lt_of_le z dn), dne, hn₃⟩)
theorem x_made (XB : XBase B newId initId bmB) (T : XcTxt K mg c f b C fI newId initId bmB) {v : Value} (X : K.In s.heap) (hlim : s.heap.NoLimit) (G : s.heap.Ns mainGlobals mg) (BL : ∃ mb, s.heap.Ns builtinsNs mb ∧ ∀ x : Str, x ≠ "__name__" → mb x = bootBuiltins x) (hroom : A.depth + 1 < recursionLimit)
    (hq : ∀ h' tk e d, XMade s.heap h' e C d f v → R (.ok (.ret (.ref e))) { s with heap := h', toks := tk }) :
    codeAny (model prog w) A (.call (.ref C) ⟨[v], []⟩) R s := by
  obtain ⟨nm, N, q, bs, bm, hdct, sn, sub, ab, col, dd, k0, k1, k2, k3, k5, hC, hbm⟩ := exc_cls T.ei
  obtain ⟨hp, g, dr, tk, os⟩ := s
  have k : ∀ b o, hp.get? b = some o → ((hp.push (kdv_tup [v])).push (excO C hp.objs.size)).get? b = some o := fun b o e => Heap.get?_push_of_some _ (Heap.get?_push_of_some _ e)
  have hget : ((hp.push (kdv_tup [v])).push (excO C hp.objs.size)).get? (hp.objs.size + 1) = some (excO C hp.objs.size) := by heap_get
  have hnx : K.lookup (hp.objs.size + 1) = none := by
    cases e : K.lookup (hp.objs.size + 1) with
    | none => rfl
    | some o =>
      have z : hp.get? (hp.objs.size + 1) = some o := X _ _ e
      exact absurd (Nat.lt_of_succ_lt (Heap.lt_size z)) (Nat.lt_irrefl _)
  have gm : hp.objs.size + 1 ≠ mainGlobals := fun z => by
    have := G.lt
    rw [← z] at this
    exact absurd (Nat.lt_of_succ_lt this) (Nat.lt_irrefl _)
  obtain ⟨mb, B1, B2⟩ := BL
  refine call_own XB.F (fun Y => excTail_contains Y bm hbm) (X _ _ hC) (looks_findIn X T.iC) (fun self => bind_fn X self T.tC) (by rw [sizeLine_eq]; exact (by decide : 1 ≤ 16777216)) ?_
  refine x_init (s := ⟨(hp.push (kdv_tup [v])).push (excO C hp.objs.size), g, dr, tk, os⟩) XB T (X.keeps k) (hlim.keeps k) (G.keeps k) ⟨mb, B1.keeps k, B2⟩ hget hnx ?_ gm fun h' tk' dx ⟨k', ⟨t1, hx⟩, dn, dne, hns⟩ => ?_
  · show A.depth + 1 < recursionLimit
    exact hroom
  · have old : ∀ b o, hp.get? b = some o → h'.get? b = some o := fun b o e => k' b o (Nat.ne_of_lt (Nat.lt_succ_of_lt (Heap.lt_size e))) (k b o e)
    have z : hp.objs.size + 1 + 1 ≤ dx := by
      first
        | (simpa only [Heap.size_push] using dn)
        | exact dn
        | (have q := dn; rw [Heap.size_push, Heap.size_push] at q; exact q)
    exact ⟨rfl, hq h' tk' (hp.objs.size + 1) dx ⟨old, Nat.le_succ _, ⟨_, _, hx, rfl, rfl, rfl, rfl⟩, Nat.le_trans (Nat.le_trans (Nat.le_succ _) (Nat.le_succ _)) z, dne, hns⟩⟩
end
end
end MiX

set_option Elab.async false
set_option linter.all false
set_option maxRecDepth 100000
set_option maxHeartbeats 1000000
namespace Mi
open PySem PySem.Spec PyProof.Rows L2

/-! ### raise C(e) -/
theorem relO_x {f : Str} {v : V} {v' : Value} (r : RelV v v') (g : Str) : L2.RelO (List.lookup g [(f, v)]) (if g = f then some v' else none) := by
  by_cases hw : g = f
  · subst hw
    rw [if_pos rfl]
    have q : List.lookup g [(g, v)] = some v := by simp [List.lookup]
    rw [q]
    exact r
  · rw [if_neg hw]
    have qw : (g == f) = false := by simpa using hw
    have q2 : List.lookup g [(f, v)] = none := by simp [List.lookup, qw]
    rw [q2]
    trivial
def tMkX (C : Addr) (f : Str) (ta : TA) : St → Hp → XK → Prop := fun σ H Q => ta σ H fun vs H1 => ∃ v, vs = [v] ∧ ∀ d, H1 d = none → Q (.ref C) (some d) (upd H1 d (.xd [(f, v)]))
section
variable {X : Cx} {C fI : Addr} {c f b : Str} {B newId initId : String} {bmB : List Value}
theorem pmk_x {a : Expr} {ta : TA} {p pos : Pos} {k : Nat} (XB : MiX.XBase B newId initId bmB) (T : MiX.XcTxt X.K X.mg c f b C fI newId initId bmB) (hr : RoomG k X.A) (ha : PA X [a] ta) (hg : Gl X c) (hcd : (c == ("__debug__" : Str)) = false)
    (he : starEach (a :: []) X.env = (false, eval a X.env) :: starEach [] X.env := by rfl) (hpl : (backTo pos (starEach [] X.env)).any (·.1) = false := by rfl) :
    PMk X (.Call (.Name c p) [a] [] pos) (tMkX C f ta) := by
  intro pins s σ H Q I h
  refine wpAny_Call_Name_kw (ld_glob I hg T.gC ?_ hcd)
  refine PySem.W.callWith_K (h₀ := X.base) I.ok.mod.kin T.kC (thn (ha.run pos pins s σ H _ I h) fun us s1 hh => ?_) he hpl
  obtain ⟨vs, H1, I1, r1, v, ev, q1⟩ := hh
  subst ev
  refine ⟨I1.kIn, ?_⟩
  cases r1 with
  | cons rv rn =>
    rename_i v' us'
    cases rn
    show wpAny _ _ (call (.ref C) [v']) _ _ _
    have hlim := I1.nolimit
    have hG : s1.heap.Ns mainGlobals X.mg := I1.ok.mod.glob.keeps I1.bk
    have hB : ∃ mb, s1.heap.Ns builtinsNs mb ∧ ∀ x : Str, x ≠ "__name__" → mb x = bootBuiltins x := by
      obtain ⟨mb, b1, b2⟩ := I1.ok.mod.blt
      exact ⟨mb, b1.keeps I1.bk, b2⟩
    obtain ⟨hp, g, dr, tk, os⟩ := s1
    refine wpAny_call (MiX.x_made XB T I1.kIn hlim hG hB (by have := hr.rm.dp; omega) fun h' tk' e d M => ?_)
    show MkP X pins σ Q (.ref e) ⟨h', g, dr, tk', os⟩
    obtain ⟨oe, fv, hoe, hc, hd, hdat, h1⟩ := M.obj
    have hns := M.ns
    obtain ⟨G', g1, g2⟩ := restrict h' fun b => decide (b ≠ e)
    have gk : ∀ b, b ≠ e → G'.get? b = h'.get? b := fun b hb => g1 b (decide_eq_true hb)
    have ge : G'.get? e = none := g2 e (by simp)
    have old : ∀ b o, hp.get? b = some o → G'.get? b = some o := fun b o q => (gk b (Nat.ne_of_lt (Nat.lt_of_lt_of_le (Heap.lt_size q) M.new))).trans (M.keep b o q)
    have ob : ObjOk X.prog X.w (upd H1 d (.xd [(f, v)])) G' d (.xd [(f, v)]) :=
      ⟨_, hns.at (fun o q => (gk d M.dne).trans q), fun g => relO_x rv g⟩
    have J : Inv X pins σ (upd H1 d (.xd [(f, v)])) ⟨G', g, dr, tk', os⟩ := I1.laid (t' := tk') old M.dbig ob
    refine ⟨e, oe, fv, ⟨G', g, dr, tk', os⟩, _, .ref C, some d, rfl, J, fun b o q => ?_, ge, hoe, ⟨hc, hd⟩, hdat, h1, ?_, rfl, I1.bare, raises_own T.exC T.tyC, q1 d (I1.hok.fresh M.dbig)⟩
    · by_cases hb : b = e
      · have q' : G'.get? b = some o := q
        rw [hb, ge] at q'; cases q'
      · exact (gk b hb).symm.trans q
    · rw [upd_ne (Ne.symm M.dne)]
      exact I1.hok.fresh M.new
@[simp] def sRaise (c f : Str) (fe : Fe) : Fs := sOf fe fun d env h => .ex ⟨c, f, d⟩ env h
theorem ds_raise {R : Rx} {W : WX} {a : Expr} {fe : Fe} {p pos pos2 : Pos} {k : Nat} (hc : X.calm = true) (hR : R.mg = X.mg) (XB : MiX.XBase B newId initId bmB) (T : MiX.XcTxt X.K X.mg c f b C fI newId initId bmB) (hr : RoomG k X.A) (tk : Takes X W) (ha : DE X R W a fe) (hg : Gl X c) (hcd : (c == ("__debug__" : Str)) = false := by decide)
    (hs : starEach [a] X.env = (false, eval a X.env) :: starEach [] X.env := by rfl) (hpl : (backTo pos (starEach [] X.env)).any (·.1) = false := by rfl) :
    DS X R W (.Raise (some (.Call (.Name c p) [a] [] pos)) none pos2) (sRaise c f fe) := by
  refine ⟨fun pins s σ H D I h => (ps_raise hc tk (pmk_x (pos := pos) (p := p) XB T hr (pa_cons ha pa_nil hs) hg hcd hs hpl)).run pins s σ H D I ?_⟩
  obtain ⟨α, env, hp, re, rh, fi⟩ := h
  refine ⟨α, env, hp, re, rh, (finS_of re fi).imp fun v H1 hq => ?_⟩
  obtain ⟨d, α1, h1, _, x1, rh1, r1, f1⟩ := hq
  refine ⟨v, rfl, fun dd hdd => ?_⟩
  have xs : Ext α1 H1 α1 (upd H1 dd (.xd [(f, v)])) := Ext.side hdd
  exact f1 α1 _ σ (.ref C) dd xs (rh1.side hdd) ((re.ext x1).ext xs) ⟨C, v, by rw [hR]; exact T.gC, rfl, upd_same, RelD.ext xs _ _ r1⟩
end
/-! ### what number an exception gets -/
mutual
def xid : D → Nat
  | .exc n _ _ d => max (n + 1) (xid d)
  | .exv _ _ d _ => xid d
  | .tup xs => xids xs
  | _ => 0
def xids : List D → Nat
  | [] => 0
  | d :: r => max (xid d) (xids r)
end
def xidK : List (Key × D) → Nat
  | [] => 0
  | (_, d) :: r => max (xid d) (xidK r)
def xidO : Ob → Nat
  | .lst xs => xids xs
  | .fro xs => xids xs
  | .dic xs => xidK xs
def xidH : Hd → Nat
  | [] => 0
  | o :: r => max (xidO o) (xidH r)
def xidE : En → Nat
  | [] => 0
  | none :: r => xidE r
  | some d :: r => max (xid d) (xidE r)
def fresh (env : En) (h : Hd) (e : Exn) : Nat := max (xidE env) (max (xidH h) (xid e.v))
def Rx.put (R : Rx) (n : Nat) (x : Addr × Value × Addr) : Rx := { R with xa := fun m => if m = n then some x else R.xa m }
section
variable {R : Rx} {α : List Addr} {H : Hp} {n : Nat} {x : Addr × Value × Addr}
theorem put_ne {m : Nat} (h : m ≠ n) : (R.put n x).xa m = R.xa m := if_neg h
theorem put_eq : (R.put n x).xa n = some x := if_pos rfl
mutual
theorem RelD.up : ∀ {d : D} {v : V}, xid d ≤ n → RelD R α H d v → RelD (R.put n x) α H d v
  | .non, _, _, h => by unfold RelD at h ⊢; exact h
  | .bl _, _, _, h => by unfold RelD at h ⊢; exact h
  | .int _, _, _, h => by unfold RelD at h ⊢; exact h
  | .str _, _, _, h => by unfold RelD at h ⊢; exact h
  | .tup xs, v, l, h => by
    unfold xid at l
    unfold RelD at h ⊢
    obtain ⟨a, vs, h1, h2, h3⟩ := h
    exact ⟨a, vs, h1, h2, RelDs.up l h3⟩
  | .ref n, v, _, h => by unfold RelD at h ⊢; exact h
  | .gl _, _, _, h => by unfold RelD at h ⊢; exact h
  | .ty _, _, _, h => by unfold RelD at h ⊢; exact h
  | .exc m c f d, v, l, h => by
    unfold xid at l
    unfold RelD at h ⊢
    intro a cls dd hx
    rw [put_ne (by omega)] at hx
    obtain ⟨h1, C, v', h2, h3, h4, h5⟩ := h a cls dd hx
    exact ⟨h1, C, v', h2, h3, h4, RelD.up (by omega) h5⟩
  | .lam _, _, _, h => by unfold RelD at h; exact h.elim
  | .exv c f d m, v, l, h => by
    unfold xid at l
    unfold RelD at h ⊢
    obtain ⟨a, dd, t, C, v', h1, h2, h3, h6, h4, h5⟩ := h
    exact ⟨a, dd, t, C, v', h1, h2, h3, h6, h4, RelD.up l h5⟩
theorem RelDs.up : ∀ {ds : List D} {vs : List V}, xids ds ≤ n → RelDs R α H ds vs → RelDs (R.put n x) α H ds vs
  | [], _, _, h => by unfold RelDs at h ⊢; exact h
  | d :: ds, vs, l, h => by
    unfold xids at l
    unfold RelDs at h ⊢
    obtain ⟨v, r, h1, h2, h3⟩ := h
    exact ⟨v, r, h1, RelD.up (by omega) h2, RelDs.up (by omega) h3⟩
end
mutual
theorem RelD.down (hn : R.xa n = none) : ∀ {d : D} {v : V}, RelD (R.put n x) α H d v → RelD R α H d v
  | .non, _, h => by unfold RelD at h ⊢; exact h
  | .bl _, _, h => by unfold RelD at h ⊢; exact h
  | .int _, _, h => by unfold RelD at h ⊢; exact h
  | .str _, _, h => by unfold RelD at h ⊢; exact h
  | .tup xs, v, h => by
    unfold RelD at h ⊢
    obtain ⟨a, vs, h1, h2, h3⟩ := h
    exact ⟨a, vs, h1, h2, RelDs.down hn h3⟩
  | .ref n, v, h => by unfold RelD at h ⊢; exact h
  | .gl _, _, h => by unfold RelD at h ⊢; exact h
  | .ty _, _, h => by unfold RelD at h ⊢; exact h
  | .exc m c f d, v, h => by
    unfold RelD at h ⊢
    intro a cls dd hx
    by_cases hm : m = n
    · rw [hm, hn] at hx; cases hx
    · obtain ⟨h1, C, v', h2, h3, h4, h5⟩ := h a cls dd (by rw [put_ne hm]; exact hx)
      exact ⟨h1, C, v', h2, h3, h4, RelD.down hn h5⟩
  | .lam _, _, h => by unfold RelD at h; exact h.elim
  | .exv c f d m, v, h => by
    unfold RelD at h ⊢
    obtain ⟨a, dd, t, C, v', h1, h2, h3, h6, h4, h5⟩ := h
    exact ⟨a, dd, t, C, v', h1, h2, h3, h6, h4, RelD.down hn h5⟩
theorem RelDs.down (hn : R.xa n = none) : ∀ {ds : List D} {vs : List V}, RelDs (R.put n x) α H ds vs → RelDs R α H ds vs
  | [], _, h => by unfold RelDs at h ⊢; exact h
  | d :: ds, vs, h => by
    unfold RelDs at h ⊢
    obtain ⟨v, r, h1, h2, h3⟩ := h
    exact ⟨v, r, h1, RelD.down hn h2, RelDs.down hn h3⟩
end
theorem RelKs.up : ∀ {ds : List (Key × D)} {vs : List (Key × V)}, xidK ds ≤ n → RelKs R α H ds vs → RelKs (R.put n x) α H ds vs
  | [], _, _, h => by unfold RelKs at h ⊢; exact h
  | (k, d) :: ds, vs, l, h => by
    unfold xidK at l
    unfold RelKs at h ⊢
    obtain ⟨v, r, h1, h2, h3⟩ := h
    exact ⟨v, r, h1, RelD.up (by omega) h2, RelKs.up (by omega) h3⟩
theorem RelKs.down (hn : R.xa n = none) : ∀ {ds : List (Key × D)} {vs : List (Key × V)}, RelKs (R.put n x) α H ds vs → RelKs R α H ds vs
  | [], _, h => by unfold RelKs at h ⊢; exact h
  | (k, d) :: ds, vs, h => by
    unfold RelKs at h ⊢
    obtain ⟨v, r, h1, h2, h3⟩ := h
    exact ⟨v, r, h1, RelD.down hn h2, RelKs.down hn h3⟩
theorem RelO.up {o : Ob} {a : Addr} (l : xidO o ≤ n) (h : RelO R α H o a) : RelO (R.put n x) α H o a := by
  cases o with
  | lst xs => obtain ⟨vs, q, t⟩ := h; exact ⟨vs, q, RelDs.up l t⟩
  | fro xs => obtain ⟨vs, ob, q, t⟩ := h; exact ⟨vs, ob, q, RelDs.up l t⟩
  | dic xs => obtain ⟨vs, q, t⟩ := h; exact ⟨vs, q, RelKs.up l t⟩
theorem RelO.down (hn : R.xa n = none) {o : Ob} {a : Addr} (h : RelO (R.put n x) α H o a) : RelO R α H o a := by
  cases o with
  | lst xs => obtain ⟨vs, q, t⟩ := h; exact ⟨vs, q, RelDs.down hn t⟩
  | fro xs => obtain ⟨vs, ob, q, t⟩ := h; exact ⟨vs, ob, q, RelDs.down hn t⟩
  | dic xs => obtain ⟨vs, q, t⟩ := h; exact ⟨vs, q, RelKs.down hn t⟩
theorem xidH_get : ∀ {h : Hd} {i : Nat} {o : Ob}, h[i]? = some o → xidO o ≤ xidH h
  | [], _, _, e => by simp at e
  | o :: r, 0, _, e => by simp at e; subst e; unfold xidH; omega
  | o :: r, i + 1, _, e => by
    have := xidH_get (h := r) (i := i) (by simpa using e)
    unfold xidH; omega
theorem xidE_get : ∀ {h : En} {i : Nat} {o : D}, h[i]? = some (some o) → xid o ≤ xidE h
  | [], _, _, e => by simp at e
  | some o :: r, 0, _, e => by simp at e; subst e; unfold xidE; omega
  | none :: r, 0, _, e => by simp at e
  | some o :: r, i + 1, _, e => by
    have := xidE_get (h := r) (i := i) (by simpa using e)
    unfold xidE; omega
  | none :: r, i + 1, _, e => by
    have := xidE_get (h := r) (i := i) (by simpa using e)
    unfold xidE; exact this
theorem RH.up {h : Hd} (l : xidH h ≤ n) (r : RH R α h H) : RH (R.put n x) α h H := ⟨r.len, r.nd, fun i o e => by
  obtain ⟨a, h1, h2⟩ := r.obj i o e
  exact ⟨a, h1, h2.up (Nat.le_trans (xidH_get e) l)⟩, r.tab, r.kp⟩
theorem RH.down {h : Hd} (hn : R.xa n = none) (r : RH (R.put n x) α h H) : RH R α h H := ⟨r.len, r.nd, fun i o e => by
  obtain ⟨a, h1, h2⟩ := r.obj i o e
  exact ⟨a, h1, h2.down hn⟩, r.tab, r.kp⟩
theorem RelEnv.up {env : En} {σ : St} (l : xidE env ≤ n) (r : RelEnv R α H env σ) : RelEnv (R.put n x) α H env σ := ⟨r.1, fun i d e => by
  obtain ⟨v, h1, h2⟩ := r.2 i d e
  refine ⟨v, h1, ?_⟩
  have k : xid d ≤ n := Nat.le_trans (xidE_get e) l
  cases d <;> first | exact h2 | exact .of (RelD.up k h2)⟩
theorem RelEnv.down {env : En} {σ : St} (hn : R.xa n = none) (r : RelEnv (R.put n x) α H env σ) : RelEnv R α H env σ := ⟨r.1, fun i d e => by
  obtain ⟨v, h1, h2⟩ := r.2 i d e
  refine ⟨v, h1, ?_⟩
  cases d <;> first | exact h2 | exact .of (RelD.down hn h2)⟩
end
/-! ### try: .. except C as n: .. -/
@[simp] def sAft (i : Nat) : SRes → SRes
  | .nx env h => .nx (env.set i none) h
  | .bk env h => .bk (env.set i none) h
  | .ct env h => .ct (env.set i none) h
  | .rt d h => .rt d h
  | _ => .no
@[simp] def sTryAs (i : Nat) (mt : Str → Option Bool) (body : Fs) (suite : Nat → Fs) : Fs := fun env h => match body env h with
  | .ex e env1 h1 => (match mt e.c with
    | some true => sAft i (suite (fresh env1 h1 e) (env1.set i (some (.exc (fresh env1 h1 e) e.c e.f e.v))) h1)
    | some false => .ex e env1 h1
    | none => .no)
  | r => r
section
variable {X : Cx} {R : Rx} {W : WX} {x nm : Str} {c : Value} {i : Nat} {body suite : List Stmt} {b₀ : Stmt} {np pos pos' : Pos} {fb : Fs} {fs : Nat → Fs} {mt : Str → Option Bool}
theorem fin_aft {n : Nat} {y : Addr × Value × Addr} {α : List Addr} {H : Hp} {Dn : Ends} {r : SRes} (hn : R.xa n = none) (f : FinS R W α H Dn (sAft i r)) :
    FinS (R.put n y) W0 α H { nx := fun σ' H' => Dn.nx (σ'.set i none) H', rt := Dn.rt, bk := fun σ' H' => Dn.bk (σ'.set i none) H', ct := fun σ' H' => Dn.ct (σ'.set i none) H' } r := by
  cases r with
  | nx env h => exact fun α' H' σ' x rh re => f α' H' _ x (rh.down hn) (re.down hn).clear
  | rt d h => exact fun α' H' v x rh rd => f α' H' _ x (rh.down hn) (rd.down hn)
  | bk env h => exact fun α' H' σ' x rh re => f α' H' _ x (rh.down hn) (re.down hn).clear
  | ct env h => exact fun α' H' σ' x rh re => f α' H' _ x (rh.down hn) (re.down hn).clear
  | ex e env h => exact (show False from f).elim
  | no => exact (show False from f).elim
theorem ds_tryAs (hs : X.stack = X.env :: X.outer) (hf : X.env.frame = some X.env.locals) (hN : X.N.Nodup) (hR : R.mg = X.mg) (hR0 : ∀ n, R.xa n = none) (hc : Names X x c) (tk : Takes X W)
    (hmt : ∀ c' b, mt c' = some b → ∀ C, X.mg c' = some (.ref C) → PySem.W.exmOne X.K (.ref C) c = some b)
    (hb : ∀ (W' : WX) (pn : List (Addr × Obj)) (xe : Value → Shared → Prop), Takes (X.tr pn xe) W' → PassesOwn (model X.prog X.w) X.A X.env xe → DSs (X.tr pn xe) R W' body fb)
    (hsu : ∀ (a : Addr) (oe : Obj) (cls : Value) (dd : Addr) (pn : List (Addr × Obj)) (n : Nat), Zc cls (some dd) oe → (∃ vs, oe.data = .fields vs) → DSs (X.suite a ((a, oe) :: pn)) (R.put n (a, cls, dd)) W0 (b₀ :: suite) (fs n))
    (hi : X.N[i]? = some nm := by rfl) (hln : X.env.kindOf nm = some .local := by rfl) :
    DS X R W (.Try body [.ExceptHandler (some (.Name x np)) (some nm) (b₀ :: suite) pos'] [] [] pos) (sTryAs i mt fb fs) := by
  refine ⟨fun pins s σ H D I h => (ps_try_as (tb := fun W' => tS R W' fb) (ts := fun a cls d D σ H => ∃ dd n, d = some dd ∧ tS (R.put n (a, cls, dd)) W0 (fs n) D σ H) hs hf hN hi hln hc tk hb (fun a oe cls d pn hz hv => ⟨fun pins s σ H D I h => ?_⟩)).run pins s σ H D I ?_⟩
  · obtain ⟨dd, n, rfl, q⟩ := h
    exact (hsu a oe cls dd pn n hz hv).run pins s σ H D I q
  · obtain ⟨α, env, hp, re, rh, fi⟩ := h
    refine ⟨α, env, hp, re, rh, ?_⟩
    unfold sTryAs at fi
    cases er : fb env hp with
    | nx env1 h1 => rw [er] at fi; exact fi
    | rt d h1 => rw [er] at fi; exact fi
    | bk d h1 => rw [er] at fi; exact fi
    | ct d h1 => rw [er] at fi; exact fi
    | no => rw [er] at fi; exact fi
    | ex e env1 h1 =>
      rw [er] at fi
      dsimp only at fi
      intro α1 H1 σ1 cls dd x1 rh1 re1 rx
      obtain ⟨C, v', g1, g2, g3, g4⟩ := rx
      cases em : mt e.c with
      | none => rw [em] at fi; exact (show False from fi).elim
      | some b =>
        rw [em] at fi
        refine ⟨b, by rw [g2]; exact hmt _ _ em C (by rw [← hR]; exact g1), fun hb a ha => ?_, fun hb => ?_⟩
        · subst hb
          refine ⟨dd, fresh env1 h1 e, rfl, α1, _, h1, ?_, rh1.up (by unfold fresh; omega), (fin_aft (hR0 _) fi).mono x1⟩
          refine RelEnv.set (re1.up (by unfold fresh; omega)) ?_
          unfold RelD
          intro a' cls' dd' hx
          rw [put_eq] at hx
          cases hx
          exact ⟨rfl, C, v', g1, g2, g3, g4.up (by unfold fresh; omega)⟩
        · subst hb
          exact fi α1 H1 σ1 cls dd x1 rh1 re1 ⟨C, v', g1, g2, g3, g4⟩
/-! ### the field of the exception in the suite -/
@[simp] def eFld (n : Nat) (f : Str) (cs : List Str) (fe : Fe) : Fe := fun env h => (fe env h).bind fun d h1 => match d with
  | .exc m c g v => if (m == n && (g == f && cs.contains c)) = true then .ok v h1 else .no
  | _ => .no
theorem de_fld {e : Expr} {fe : Fe} {f : Str} {cs : List Str} {n : Nat} {a : Addr} {oe : Obj} {cls : Value} {dd : Addr} {pn : List (Addr × Obj)} (hR : R.mg = X.mg) (hz : Zc cls (some dd) oe) (hv : ∃ vs, oe.data = .fields vs)
    (hT : ∀ c ∈ cs, ∃ b C fI newId initId bmB, MiX.XcTxt X.K X.mg c f b C fI newId initId bmB) (he : DE (X.suite a ((a, oe) :: pn)) (R.put n (a, cls, dd)) W e fe)
    (hb : attributeBase e f X.env (eval e X.env) = eval e X.env := by rfl) :
    DE (X.suite a ((a, oe) :: pn)) (R.put n (a, cls, dd)) W (.Attribute e f pos) (eFld n f cs fe) := by
  refine ⟨fun pins s σ H Q I h => ?_⟩
  obtain ⟨α, env, hp, re, rh, fi⟩ := h
  refine attr_of hb (thn (he.run pins s σ H _ I ⟨α, env, hp, re, rh, Fin.split fi⟩) fun u s1 hh => ?_)
  obtain ⟨v, H1, I1, ru, d, α1, h1, _, x1, rh1, rd, f1⟩ := hh
  cases d with
  | exc m c g dv =>
    dsimp only at f1
    split at f1
    · rename_i hk
      rw [Bool.and_eq_true, Bool.and_eq_true, beq_iff_eq, beq_iff_eq] at hk
      obtain ⟨rfl, rfl, hcs⟩ := hk
      unfold RelD at rd
      obtain ⟨rfl, C, v', g1, g2, g3, g4⟩ := rd a cls dd put_eq
      obtain ⟨b, C', fI, newId, initId, bmB, T⟩ := hT c (by simpa using hcs)
      have g1 : R.mg c = some (.ref C) := g1
      rw [hR, T.gC] at g1
      cases g1
      subst g2
      obtain rfl : u = Value.ref a := ru
      obtain ⟨ha, _⟩ := I1.pin (a, oe) (List.mem_append_left _ List.mem_cons_self)
      obtain ⟨vs, hd⟩ := hv
      have hx : ObjOk X.prog X.w H1 s1.heap dd (.xd [(g, v')]) := I1.hok dd _ g3
      obtain ⟨mA, hns, hr⟩ := hx
      obtain ⟨od, ho, hl⟩ := lookIn_ns hns
      have l : List.lookup g [(g, v')] = some v' := by simp [List.lookup]
      obtain ⟨u, hu, ru⟩ := L2.RelO.some_of (v := v') (o := mA g) (by rw [← l]; exact hr g)
      have J : PySem.W.InstAt s1.heap a oe C (some od) := ⟨ha, hz.1, by unfold PySem.W.notCls; rw [hd] <;> rfl, by rw [hz.2]; exact ho⟩
      exact HandSPX.exc_get I1.kIn J T.ga T.gg T.exC (PySem.W.findObj_own T.hd T.noN rfl (by rw [hl, hu])) (handed_of ru) ⟨v', H1, I1.tok _, ru, f1 α1 H1 v' .refl rh1 g4⟩
    · exact f1.elim
  | _ => exact (show False from f1).elim
end
end Mi

set_option Elab.async false
set_option linter.all false
set_option maxRecDepth 100000
set_option maxHeartbeats 1000000
namespace Mi
open PySem PySem.Spec PyProof.Rows L2

/-! ### data -/
def toP : Nat → Hd → D → Option PyData
  | 0, _, _ => none
  | _ + 1, _, .non => some .none
  | _ + 1, _, .bl b => some (.bool b)
  | _ + 1, _, .int i => some (.int i)
  | _ + 1, _, .str x => some (.str x)
  | n + 1, h, .tup xs => (xs.mapM (toP n h)).map .tuple
  | n + 1, h, .ref k => (match h[k]? with
    | some (.lst xs) => (xs.mapM (toP n h)).map .list
    | some (.fro xs) => (xs.mapM (toP n h)).map .list
    | _ => none)
  | _ + 1, _, _ => none
section
variable {R : Rx} {α : List Addr} {H : Hp} {h : Hd}
theorem toP_all {n : Nat} (ih : ∀ {d : D} {v : V} {p : PyData}, toP n h d = some p → RelD R α H d v → Dp R.K H v p) : ∀ {ds : List D} {vs : List V} {ps : List PyData}, ds.mapM (toP n h) = some ps → RelDs R α H ds vs → DpAll R.K H vs ps
  | [], vs, ps, e, r => by
    rw [r.nil_inv]
    simp at e
    subst e
    exact .nil
  | d :: ds, vs, ps, e, r => by
    obtain ⟨v, r', rfl, h1, h2⟩ := r.cons_inv
    rw [List.mapM_cons] at e
    cases e1 : toP n h d with
    | none => rw [e1] at e; simp at e
    | some p =>
      rw [e1] at e
      cases e2 : ds.mapM (toP n h) with
      | none => rw [e2] at e; simp at e
      | some ps' =>
        rw [e2] at e
        simp at e
        subst e
        exact .cons (ih e1 h1) (toP_all ih e2 h2)
theorem toP_dp (rh : RH R α h H) : ∀ {n : Nat} {d : D} {v : V} {p : PyData}, toP n h d = some p → RelD R α H d v → Dp R.K H v p
  | 0, _, _, _, e, _ => by unfold toP at e; cases e
  | n + 1, .non, v, p, e, r => by unfold toP at e; cases e; rw [r.non_inv]; exact .non
  | n + 1, .bl b, v, p, e, r => by unfold toP at e; cases e; rw [r.bl_inv]; exact .bl b
  | n + 1, .int b, v, p, e, r => by unfold toP at e; cases e; rw [r.int_inv]; exact .int b
  | n + 1, .str b, v, p, e, r => by unfold toP at e; cases e; rw [r.str_inv]; exact .str b
  | n + 1, .tup xs, v, p, e, r => by
    unfold toP at e
    cases e2 : xs.mapM (toP n h) with
    | none => rw [e2] at e; cases e
    | some ps =>
      rw [e2] at e
      cases e
      obtain ⟨a, vs, rfl, h1, h2⟩ := r.tup_inv
      exact .tup h1 (toP_all (fun x y => toP_dp rh x y) e2 h2)
  | n + 1, .ref k, v, p, e, r => by
    unfold toP at e
    obtain ⟨a, ha, rfl⟩ := r.ref_inv
    have go : ∀ xs, (h[k]? = some (.lst xs) ∨ h[k]? = some (.fro xs)) → (xs.mapM (toP n h)).map PyData.list = some p → Dp R.K H (.ref a) p := fun xs hx e => by
      obtain ⟨vs, h1, h2⟩ := lst_of rh ha hx
      cases e2 : xs.mapM (toP n h) with
      | none => rw [e2] at e; cases e
      | some ps =>
        rw [e2] at e
        cases e
        exact .lst h1 (toP_all (fun x y => toP_dp rh x y) e2 h2)
    cases e3 : h[k]? with
    | none => rw [e3] at e; cases e
    | some o =>
      rw [e3] at e
      cases o with
      | lst xs => exact go xs (.inl e3) e
      | fro xs => exact go xs (.inr e3) e
      | dic xs => cases e
  | n + 1, .gl _, _, _, e, _ => by unfold toP at e; cases e
  | n + 1, .ty _, _, _, e, _ => by unfold toP at e; cases e
  | n + 1, .exc _ _ _ _, _, _, e, _ => by unfold toP at e; cases e
end
def maxP : Nat := 24
def eqDeep (x y : D) (h : Hd) (k : Bool → Bool) : Res D := match toP maxP h x, toP maxP h y with
  | some d, some e => if (SeqAt.shaped d && SeqAt.shaped e) = true then .ok (.bl (k (PyData.eqv d e))) h else .no
  | _, _ => .no
@[simp] def eqB (x y : D) (h : Hd) (k : Bool → Bool) : Res D := match x, y with
  | .int i, .int j => .ok (.bl (k (decide (i = j)))) h
  | .str i, .str j => .ok (.bl (k (decide (i = j)))) h
  | .bl i, .bl j => .ok (.bl (k (decide (i = j)))) h
  | _, _ => eqDeep x y h k
@[simp] def gEq : D → D → Hd → Res D := fun x y h => eqB x y h id
@[simp] def gNe : D → D → Hd → Res D := fun x y h => eqB x y h not
/-! ### arithmetic -/
def mulOk (i j : Int) : Bool := decide (i.natAbs < 18446744073709551616) || decide (j.natAbs < 18446744073709551616) || decide (i.natAbs.log2 + j.natAbs.log2 < 1000000)
def b2 (b : Bool) : Int := if b = true then 1 else 0
@[simp] def gAdd : D → D → Hd → Res D := fun x y h => match x, y with
  | .int i, .int j => .ok (.int (i + j)) h
  | .str a, .str b => if a.length + b.length ≤ 16777216 then .ok (.str (a ++ b)) h else .no
  | .tup xs, .tup ys => if xs.length + ys.length ≤ 16777216 then .ok (.tup (xs ++ ys)) h else .no
  | .ref a, .ref b => (match h[a]?, h[b]? with
    | some (.lst xs), some (.lst ys) => if xs.length + ys.length ≤ 16777216 then .ok (.ref h.length) (h ++ [.lst (xs ++ ys)]) else .no
    | _, _ => .no)
  | _, _ => .no
@[simp] def gSub : D → D → Hd → Res D := fun x y h => match x, y with
  | .int i, .int j => .ok (.int (i - j)) h
  | _, _ => .no
noncomputable def gMul : D → D → Hd → Res D := fun x y h => match x, y with
  | .int i, .int j => if mulOk i j = true then .ok (.int (i * j)) h else .no
  | .ref a, .int k => (match h[a]? with
    | some (.lst xs) => if (rngOk k && decide (xs.length * k.toNat ≤ 16777216)) = true then .ok (.ref h.length) (h ++ [.lst (List.replicate k.toNat xs).flatten]) else .no
    | _ => .no)
  | .tup xs, .int k => if (!xs.isEmpty && decide (2 ≤ k) && decide (k ≤ 1000) && decide (xs.length ≤ 1000)) = true then .ok (.tup (List.replicate k.toNat xs).flatten) h else .no
  | _, _ => .no
def gFdv : D → D → Hd → Res D := fun x y h => match x, y with
  | .int i, .int j => if (decide (j ≠ 0) && decide (j.natAbs < 1073741824)) = true then .ok (.int (i.fdiv j)) h else .no
  | _, _ => .no
def gMod : D → D → Hd → Res D := fun x y h => match x, y with
  | .int i, .int j => if decide (j ≠ 0) = true then .ok (.int (i.fmod j)) h else .no
  | _, _ => .no
def gPow : D → D → Hd → Res D := fun x y h => match x, y with
  | .int i, .int j => if (decide (0 ≤ j) && decide (j ≤ 1000000) && decide (i.natAbs < 18446744073709551616)) = true then .ok (.int (i ^ j.toNat)) h else .no
  | _, _ => .no
@[simp] def gNeg : D → Hd → Res D := fun x h => match x with
  | .int i => .ok (.int (-i)) h
  | _ => .no
@[simp] def intsD : List D → Option (List Int)
  | [] => some []
  | .int i :: r => (match intsD r with
    | some l => some (i :: l)
    | none => none)
  | _ => none
@[simp] def gLt : D → D → Hd → Res D := fun x y h => match x, y with
  | .int i, .int j => .ok (.bl (decide (i < j))) h
  | .str i, .str j => .ok (.bl (decide (i.cps.toList < j.cps.toList))) h
  | .tup xs, .tup ys => (match intsD xs, intsD ys with
    | some ns, some ms => .ok (.bl (HT.lexLt ns ms)) h
    | _, _ => .no)
  | _, _ => .no
@[simp] def gLe : D → D → Hd → Res D := fun x y h => match x, y with
  | .int i, .int j => .ok (.bl (decide (i ≤ j))) h
  | _, _ => .no
@[simp] def gGt : D → D → Hd → Res D := fun x y h => match x, y with
  | .int i, .int j => .ok (.bl (decide (j < i))) h
  | _, _ => .no
@[simp] def gGe : D → D → Hd → Res D := fun x y h => match x, y with
  | .int i, .int j => .ok (.bl (decide (j ≤ i))) h
  | _, _ => .no
@[simp] def isNon : D → Option Bool
  | .non => some true
  | .exc _ _ _ _ => none
  | .lam _ => none
  | _ => some false
@[simp] def gIs : D → D → Hd → Res D := fun x y h => match y with
  | .non => (match isNon x with
    | some b => .ok (.bl b) h
    | none => .no)
  | .bl k => (match x with
    | .bl b => .ok (.bl (b == k)) h
    | _ => .no)
  | _ => .no
@[simp] def gIsNot : D → D → Hd → Res D := fun x y h => match y with
  | .non => (match isNon x with
    | some b => .ok (.bl (!b)) h
    | none => .no)
  | .bl k => (match x with
    | .bl b => .ok (.bl (!(b == k))) h
    | _ => .no)
  | _ => .no
def gIn (neg : Bool) : D → D → Hd → Res D := fun x y h => match y with
  | .ref k => (match toP maxP h x, toP maxP h (.ref k) with
    | some d, some (.list ds) => if (SeqAt.shaped d && SeqAt.shaped (.list ds)) = true then .ok (.bl (xor neg (ds.any fun z => PyData.eqv z d))) h else .no
    | _, _ => .no)
  | _ => .no
section
variable {Tt : List (Addr × Str)} {X : Cx} {R : Rx}
theorem intsD_rel {α : List Addr} {H : Hp} : ∀ {ds : List D} {ns : List Int} {vs : List V}, intsD ds = some ns → RelDs R α H ds vs → vs = ns.map V.int
  | [], ns, vs, e, r => by unfold intsD at e; cases e; rw [r.nil_inv]; rfl
  | d :: ds, ns, vs, e, r => by
    obtain ⟨v, r', rfl, h1, h2⟩ := r.cons_inv
    cases d with
    | int i =>
      unfold intsD at e
      cases e2 : intsD ds with
      | none => rw [e2] at e; cases e
      | some l =>
        rw [e2] at e
        cases e
        rw [intsD_rel e2 h2, h1.int_inv]
        rfl
    | _ => unfold intsD at e; cases e
theorem od_eq (hK : R.K = X.K) (hu : X.A.units + 64 < cLine) : OpD X R (compareOp .Eq) gEq := by
  intro x y α h H vx vy W σ Q rh rx ry f
  have deep : FinE R W α H σ (eqDeep x y h id) Q → ∃ r, OpR X (compareOp .Eq) r ∧ r vx vy H Q := fun f => by
    unfold eqDeep at f
    cases e1 : toP maxP h x with
    | none => rw [e1] at f; exact f.elim
    | some d =>
      cases e2 : toP maxP h y with
      | none => rw [e1, e2] at f; exact f.elim
      | some e =>
        rw [e1, e2] at f
        dsimp only at f
        split at f
        · rename_i hs
          rw [Bool.and_eq_true] at hs
          exact ⟨_, op_eqD hu, d, e, hK ▸ toP_dp rh e1 rx, hK ▸ toP_dp rh e2 ry, hs.1, hs.2, f α H _ .refl rh .bl⟩
        · exact f.elim
  cases x with
  | int i =>
    cases y with
    | int j =>
      rw [rx.int_inv, ry.int_inv]
      have e : decide (V.int i = V.int j) = decide (i = j) := by rw [Bool.eq_iff_iff]; simp
      exact ⟨_, op_eq, rfl, by rw [e]; exact f α H _ .refl rh .bl⟩
    | _ => exact deep f
  | str i =>
    cases y with
    | str j =>
      rw [rx.str_inv, ry.str_inv]
      have e : decide (V.str i = V.str j) = decide (i = j) := by rw [Bool.eq_iff_iff]; simp
      exact ⟨_, op_eq, rfl, by rw [e]; exact f α H _ .refl rh .bl⟩
    | _ => exact deep f
  | bl i =>
    cases y with
    | bl j =>
      rw [rx.bl_inv, ry.bl_inv]
      have e : decide (V.bl i = V.bl j) = decide (i = j) := by rw [Bool.eq_iff_iff]; simp
      exact ⟨_, op_eq, rfl, by rw [e]; exact f α H _ .refl rh .bl⟩
    | _ => exact deep f
  | _ => exact deep f
theorem od_ne (hK : R.K = X.K) (hu : X.A.units + 64 < cLine) : OpD X R (compareOp .NotEq) gNe := by
  intro x y α h H vx vy W σ Q rh rx ry f
  have deep : FinE R W α H σ (eqDeep x y h not) Q → ∃ r, OpR X (compareOp .NotEq) r ∧ r vx vy H Q := fun f => by
    unfold eqDeep at f
    cases e1 : toP maxP h x with
    | none => rw [e1] at f; exact f.elim
    | some d =>
      cases e2 : toP maxP h y with
      | none => rw [e1, e2] at f; exact f.elim
      | some e =>
        rw [e1, e2] at f
        dsimp only at f
        split at f
        · rename_i hs
          rw [Bool.and_eq_true] at hs
          exact ⟨_, op_neD hu, d, e, hK ▸ toP_dp rh e1 rx, hK ▸ toP_dp rh e2 ry, hs.1, hs.2, f α H _ .refl rh .bl⟩
        · exact f.elim
  cases x with
  | int i =>
    cases y with
    | int j =>
      rw [rx.int_inv, ry.int_inv]
      have e : decide (V.int i = V.int j) = decide (i = j) := by rw [Bool.eq_iff_iff]; simp
      exact ⟨_, op_ne, rfl, by rw [e]; exact f α H _ .refl rh .bl⟩
    | _ => exact deep f
  | str i =>
    cases y with
    | str j =>
      rw [rx.str_inv, ry.str_inv]
      have e : decide (V.str i = V.str j) = decide (i = j) := by rw [Bool.eq_iff_iff]; simp
      exact ⟨_, op_ne, rfl, by rw [e]; exact f α H _ .refl rh .bl⟩
    | _ => exact deep f
  | bl i =>
    cases y with
    | bl j =>
      rw [rx.bl_inv, ry.bl_inv]
      have e : decide (V.bl i = V.bl j) = decide (i = j) := by rw [Bool.eq_iff_iff]; simp
      exact ⟨_, op_ne, rfl, by rw [e]; exact f α H _ .refl rh .bl⟩
    | _ => exact deep f
  | _ => exact deep f
theorem od_add (hK : R.K = X.K) : OpD X R (binaryOp .Add) gAdd := by
  intro x y α h H vx vy W σ Q rh rx ry f
  cases x with
  | int i =>
    cases y with
    | int j => rw [rx.int_inv, ry.int_inv]; exact ⟨_, op_add, i, j, rfl, rfl, f α H _ .refl rh .int⟩
    | _ => exact (show False from f).elim
  | str i =>
    cases y with
    | str j =>
      unfold gAdd at f
      dsimp only at f
      split at f
      · rename_i hl
        rw [rx.str_inv, ry.str_inv]
        exact ⟨_, op_add_str, i, j, rfl, rfl, by rw [lineEq]; exact hl, f α H _ .refl rh .str⟩
      · exact f.elim
    | _ => exact (show False from f).elim
  | tup xs =>
    cases y with
    | tup ys =>
      unfold gAdd at f
      dsimp only at f
      split at f
      · rename_i hl
        obtain ⟨a, vs, rfl, q1, r1⟩ := rx.tup_inv
        obtain ⟨b, ws, rfl, q2, r2⟩ := ry.tup_inv
        refine ⟨_, op_catA, a, b, vs, ws, rfl, rfl, hK ▸ q1, hK ▸ q2, by rw [← r1.length, ← r2.length, lineEq]; exact hl, fun e => ?_, fun _ e => ?_, fun _ _ p hp => ?_⟩
        · subst e
          have : xs = [] := List.length_eq_zero_iff.mp r1.length
          subst this
          exact f α H _ .refl rh (.tup q2 r2)
        · subst e
          have : ys = [] := List.length_eq_zero_iff.mp r2.length
          subst this
          rw [List.append_nil] at f
          exact f α H _ .refl rh (.tup q1 r1)
        · obtain ⟨a1, b1, c1⟩ := new_tup rh (r1.append r2) hp
          exact f α _ _ a1 b1 c1
      · exact f.elim
    | _ => exact (show False from f).elim
  | ref m =>
    cases y with
    | ref n =>
      unfold gAdd at f
      dsimp only at f
      obtain ⟨a, ea, rfl⟩ := rx.ref_inv
      obtain ⟨b, eb, rfl⟩ := ry.ref_inv
      obtain ⟨o1, e1, ro1⟩ := rh.at ea
      obtain ⟨o2, e2, ro2⟩ := rh.at eb
      rw [e1, e2] at f
      cases o1 with
      | lst xs =>
        cases o2 with
        | lst ys =>
          obtain ⟨vs, q1, r1⟩ := ro1
          obtain ⟨ws, q2, r2⟩ := ro2
          dsimp only at f
          split at f
          · rename_i hl
            refine ⟨_, op_cat, a, b, vs, ws, rfl, rfl, q1, q2, by rw [← r1.length, ← r2.length, lineEq]; exact hl, fun p hp => ?_⟩
            obtain ⟨a1, b1, c1⟩ := new_lst rh (r1.append r2) hp
            exact f _ _ _ a1 b1 c1
          · exact f.elim
        | _ => exact (show False from f).elim
      | _ => exact (show False from f).elim
    | _ => exact (show False from f).elim
  | _ => exact (show False from f).elim
theorem od_sub : OpD X R (binaryOp .Sub) gSub := by
  intro x y α h H vx vy W σ Q rh rx ry f
  cases x with
  | int i =>
    cases y with
    | int j => rw [rx.int_inv, ry.int_inv]; exact ⟨_, op_sub, i, j, rfl, rfl, f α H _ .refl rh .int⟩
    | _ => exact (show False from f).elim
  | _ => exact (show False from f).elim
theorem od_mul (hK : R.K = X.K) : OpD X R (binaryOp .Mult) gMul := by
  intro x y α h H vx vy W σ Q rh rx ry f
  cases x with
  | int i =>
    cases y with
    | int j =>
      unfold gMul at f
      dsimp only at f
      split at f
      · rename_i hm
        rw [rx.int_inv, ry.int_inv]
        unfold mulOk at hm
        rw [Bool.or_eq_true, Bool.or_eq_true, decide_eq_true_eq, decide_eq_true_eq, decide_eq_true_eq] at hm
        have e : (2 : Int) ^ 64 = 18446744073709551616 := by decide
        rcases hm with hm | hm
        · exact ⟨_, op_mul, i, j, rfl, rfl, by unfold CMul; rw [e]; omega, f α H _ .refl rh .int⟩
        · exact ⟨_, op_mulW, i, j, rfl, rfl, hm, f α H _ .refl rh .int⟩
      · exact f.elim
    | _ => exact (show False from f).elim
  | ref m =>
    cases y with
    | int k =>
      unfold gMul at f
      dsimp only at f
      obtain ⟨a, ea, rfl⟩ := rx.ref_inv
      obtain ⟨o1, e1, ro1⟩ := rh.at ea
      rw [e1] at f
      cases o1 with
      | lst xs =>
        obtain ⟨vs, q1, r1⟩ := ro1
        dsimp only at f
        split at f
        · rename_i hl
          rw [Bool.and_eq_true, decide_eq_true_eq] at hl
          obtain ⟨k0, k3⟩ := hl
          obtain ⟨k1, k2⟩ := rngOk_of k0
          have e : (2 : Int) ^ 63 = 9223372036854775808 := by decide
          have e' : (2 : Int) ^ 62 = 4611686018427387904 := by decide
          rw [e'] at k1 k2
          rw [ry.int_inv]
          refine ⟨_, op_rep, a, k, vs, rfl, rfl, q1, by rw [e]; omega, by rw [e]; omega, by rw [← r1.length, lineEq]; exact k3, fun p hp => ?_⟩
          obtain ⟨a1, b1, c1⟩ := new_lst rh (r1.rep k.toNat) hp
          exact f _ _ _ a1 b1 c1
        · exact f.elim
      | _ => exact (show False from f).elim
    | _ => exact (show False from f).elim
  | tup xs =>
    cases y with
    | int k =>
      unfold gMul at f
      dsimp only at f
      split at f
      · rename_i hl
        rw [Bool.and_eq_true, Bool.and_eq_true, Bool.and_eq_true, decide_eq_true_eq, decide_eq_true_eq, decide_eq_true_eq] at hl
        obtain ⟨⟨⟨k0, k1⟩, k2⟩, k3⟩ := hl
        obtain ⟨a, vs, rfl, q1, r1⟩ := rx.tup_inv
        rw [ry.int_inv]
        refine ⟨_, op_repT, a, k, vs, rfl, rfl, hK ▸ q1, fun e => ?_, k1, k2, by rw [← r1.length]; exact k3, fun p hp => ?_⟩
        · subst e
          have : xs = [] := List.length_eq_zero_iff.mp r1.length
          subst this
          cases k0
        · obtain ⟨a1, b1, c1⟩ := new_tup rh (r1.rep k.toNat) hp
          exact f α _ _ a1 b1 c1
      · exact f.elim
    | _ => exact (show False from f).elim
  | _ => exact (show False from f).elim
theorem od_fdv : OpD X R (binaryOp .FloorDiv) gFdv := by
  intro x y α h H vx vy W σ Q rh rx ry f
  cases x with
  | int i =>
    cases y with
    | int j =>
      unfold gFdv at f
      dsimp only at f
      split at f
      · rename_i hm
        rw [Bool.and_eq_true, decide_eq_true_eq, decide_eq_true_eq] at hm
        rw [rx.int_inv, ry.int_inv]
        exact ⟨_, op_fdivN, i, j, rfl, rfl, hm, f α H _ .refl rh .int⟩
      · exact f.elim
    | _ => exact (show False from f).elim
  | _ => exact (show False from f).elim
theorem od_mod : OpD X R (binaryOp .Mod) gMod := by
  intro x y α h H vx vy W σ Q rh rx ry f
  cases x with
  | int i =>
    cases y with
    | int j =>
      unfold gMod at f
      dsimp only at f
      split at f
      · rename_i hm
        rw [decide_eq_true_eq] at hm
        rw [rx.int_inv, ry.int_inv]
        exact ⟨_, op_modN, i, j, rfl, rfl, hm, f α H _ .refl rh .int⟩
      · exact f.elim
    | _ => exact (show False from f).elim
  | _ => exact (show False from f).elim
theorem od_pow : OpD X R (binaryOp .Pow) gPow := by
  intro x y α h H vx vy W σ Q rh rx ry f
  cases x with
  | int i =>
    cases y with
    | int j =>
      unfold gPow at f
      dsimp only at f
      split at f
      · rename_i hm
        rw [Bool.and_eq_true, Bool.and_eq_true, decide_eq_true_eq, decide_eq_true_eq, decide_eq_true_eq] at hm
        rw [rx.int_inv, ry.int_inv]
        exact ⟨_, op_pow, i, j, rfl, rfl, ⟨hm.1.1, hm.1.2, by have e : (2 : Nat) ^ 64 = 18446744073709551616 := by decide
                                                              rw [e]; exact hm.2⟩, f α H _ .refl rh .int⟩
      · exact f.elim
    | _ => exact (show False from f).elim
  | _ => exact (show False from f).elim
theorem ud_neg : UnD X R (unaryOp .USub) gNeg := by
  intro x α h H vx W σ Q rh rx f
  cases x with
  | int i => rw [rx.int_inv]; exact ⟨_, un_neg, i, rfl, f α H _ .refl rh .int⟩
  | _ => exact (show False from f).elim
theorem od_lt (hK : R.K = X.K) (hu : X.A.units < cLine) : OpD X R (compareOp .Lt) gLt := by
  intro x y α h H vx vy W σ Q rh rx ry f
  cases x with
  | int i =>
    cases y with
    | int j => rw [rx.int_inv, ry.int_inv]; exact ⟨_, op_lt, i, j, rfl, rfl, f α H _ .refl rh .bl⟩
    | _ => exact (show False from f).elim
  | str i =>
    cases y with
    | str j => rw [rx.str_inv, ry.str_inv]; exact ⟨_, op_lt_str, i, j, rfl, rfl, f α H _ .refl rh .bl⟩
    | _ => exact (show False from f).elim
  | tup xs =>
    cases y with
    | tup ys =>
      unfold gLt at f
      dsimp only at f
      cases e1 : intsD xs with
      | none => rw [e1] at f; exact f.elim
      | some ns =>
        cases e2 : intsD ys with
        | none => rw [e1, e2] at f; exact f.elim
        | some ms =>
          rw [e1, e2] at f
          obtain ⟨a, vs, rfl, q1, r1⟩ := rx.tup_inv
          obtain ⟨b, ws, rfl, q2, r2⟩ := ry.tup_inv
          exact ⟨_, op_ltT hu, a, b, ns, ms, rfl, rfl, by rw [← intsD_rel e1 r1]; exact hK ▸ q1, by rw [← intsD_rel e2 r2]; exact hK ▸ q2, f α H _ .refl rh .bl⟩
    | _ => exact (show False from f).elim
  | _ => exact (show False from f).elim
theorem od_le : OpD X R (compareOp .LtE) gLe := by
  intro x y α h H vx vy W σ Q rh rx ry f
  cases x with
  | int i =>
    cases y with
    | int j => rw [rx.int_inv, ry.int_inv]; exact ⟨_, op_le, i, j, rfl, rfl, f α H _ .refl rh .bl⟩
    | _ => exact (show False from f).elim
  | _ => exact (show False from f).elim
theorem od_gt : OpD X R (compareOp .Gt) gGt := by
  intro x y α h H vx vy W σ Q rh rx ry f
  cases x with
  | int i =>
    cases y with
    | int j => rw [rx.int_inv, ry.int_inv]; exact ⟨_, op_gt, i, j, rfl, rfl, f α H _ .refl rh .bl⟩
    | _ => exact (show False from f).elim
  | _ => exact (show False from f).elim
theorem od_ge : OpD X R (compareOp .GtE) gGe := by
  intro x y α h H vx vy W σ Q rh rx ry f
  cases x with
  | int i =>
    cases y with
    | int j => rw [rx.int_inv, ry.int_inv]; exact ⟨_, op_ge, i, j, rfl, rfl, f α H _ .refl rh .bl⟩
    | _ => exact (show False from f).elim
  | _ => exact (show False from f).elim
theorem isNon_rel {α : List Addr} {H : Hp} {x : D} {v : V} {b : Bool} (e : isNon x = some b) (r : RelD R α H x v) : decide (v = V.non) = b := by
  cases x with
  | non => cases e; rw [r.non_inv]; rfl
  | bl k => cases e; rw [r.bl_inv]; rfl
  | int k => cases e; rw [r.int_inv]; rfl
  | str k => cases e; rw [r.str_inv]; exact decide_eq_false (by simp)
  | tup k => cases e; obtain ⟨a, vs, rfl, _⟩ := r.tup_inv; exact decide_eq_false (by simp)
  | ref k => cases e; obtain ⟨a, _, rfl⟩ := r.ref_inv; exact decide_eq_false (by simp)
  | gl k => cases e; obtain ⟨a, _, rfl⟩ := r.gl_inv; exact decide_eq_false (by simp)
  | ty k => cases e; rw [r.ty_inv]; exact decide_eq_false (by simp)
  | exc _ _ _ _ => cases e
  | lam _ => cases e
  | exv _ _ _ _ =>
    cases e
    unfold RelD at r
    obtain ⟨a, dd, t, C, v', rfl, _⟩ := r
    exact decide_eq_false (by simp)
theorem od_is : OpD X R (compareOp .Is) gIs := by
  intro x y α h H vx vy W σ Q rh rx ry f
  cases y with
  | non =>
    unfold gIs at f
    dsimp only at f
    cases e : isNon x with
    | none => rw [e] at f; exact f.elim
    | some b =>
      rw [e] at f
      rw [ry.non_inv]
      exact ⟨_, op_isN, rfl, by rw [isNon_rel e rx]; exact f α H _ .refl rh .bl⟩
  | bl k =>
    cases x with
    | bl b =>
      rw [rx.bl_inv, ry.bl_inv]
      refine ⟨_, op_is_bl, b, k, rfl, rfl, ?_⟩
      have : decide (b = k) = (b == k) := by cases b <;> cases k <;> rfl
      rw [this]
      exact f α H _ .refl rh .bl
    | _ => exact (show False from f).elim
  | _ => exact (show False from f).elim
theorem od_isnot : OpD X R (compareOp .IsNot) gIsNot := by
  intro x y α h H vx vy W σ Q rh rx ry f
  cases y with
  | non =>
    unfold gIsNot at f
    dsimp only at f
    cases e : isNon x with
    | none => rw [e] at f; exact f.elim
    | some b =>
      rw [e] at f
      rw [ry.non_inv]
      exact ⟨_, op_notN, rfl, by rw [isNon_rel e rx]; exact f α H _ .refl rh .bl⟩
  | bl k =>
    cases x with
    | bl b =>
      rw [rx.bl_inv, ry.bl_inv]
      refine ⟨_, op_isnot_bl, b, k, rfl, rfl, ?_⟩
      have : decide (b = k) = (b == k) := by cases b <;> cases k <;> rfl
      rw [this]
      exact f α H _ .refl rh .bl
    | _ => exact (show False from f).elim
  | _ => exact (show False from f).elim
theorem od_in (hK : R.K = X.K) (hu : X.A.units + 65 < cLine) : OpD X R (compareOp .In) (gIn false) := by
  intro x y α h H vx vy W σ Q rh rx ry f
  cases y with
  | ref k =>
    unfold gIn at f
    dsimp only at f
    cases e1 : toP maxP h x with
    | none => rw [e1] at f; exact f.elim
    | some d =>
      cases e2 : toP maxP h (.ref k) with
      | none => rw [e1, e2] at f; exact f.elim
      | some p =>
        rw [e1, e2] at f
        cases p with
        | list ds =>
          dsimp only at f
          split at f
          · rename_i hs
            rw [Bool.and_eq_true] at hs
            refine ⟨_, op_inD hu, d, ds, hK ▸ toP_dp rh e1 rx, hK ▸ toP_dp rh e2 ry, hs.1, hs.2, ?_⟩
            have := f α H _ .refl rh .bl
            rwa [Bool.false_xor] at this
          · exact f.elim
        | _ => exact (show False from f).elim
  | _ => exact (show False from f).elim
theorem od_notin (hK : R.K = X.K) (hu : X.A.units + 65 < cLine) : OpD X R (compareOp .NotIn) (gIn true) := by
  intro x y α h H vx vy W σ Q rh rx ry f
  cases y with
  | ref k =>
    unfold gIn at f
    dsimp only at f
    cases e1 : toP maxP h x with
    | none => rw [e1] at f; exact f.elim
    | some d =>
      cases e2 : toP maxP h (.ref k) with
      | none => rw [e1, e2] at f; exact f.elim
      | some p =>
        rw [e1, e2] at f
        cases p with
        | list ds =>
          dsimp only at f
          split at f
          · rename_i hs
            rw [Bool.and_eq_true] at hs
            refine ⟨_, op_notInD hu, d, ds, hK ▸ toP_dp rh e1 rx, hK ▸ toP_dp rh e2 ry, hs.1, hs.2, ?_⟩
            have := f α H _ .refl rh .bl
            rwa [Bool.true_xor] at this
          · exact f.elim
        | _ => exact (show False from f).elim
  | _ => exact (show False from f).elim
end
end Mi

set_option Elab.async false
set_option linter.all false
set_option maxRecDepth 100000
set_option maxHeartbeats 1000000
/-! ### tuple[::-1] -/
namespace HT2
open PySem PySem.Spec PyProof.Rows HT
section
variable {prog : Program} {w : World} {A : Around} {E : Value → Shared → Prop} {s : Shared}
theorem adjust_rev (n : Nat) : Builtin.Slice.sliceAdjust none none (-1) (n : Int) = ((n : Int) - 1, -1) := by
  unfold Builtin.Slice.sliceAdjust
  rfl
theorem places_rev (n : Nat) : Builtin.Slice.slicePlaces ((n : Int) - 1) (-1) (-1) = n := by
  unfold Builtin.Slice.slicePlaces
  rw [if_neg (by decide)]
  split
  · have : -(-1 : Int) = 1 := by decide
    rw [this, Int.ediv_one]
    omega
  · omega
theorem sliceApplied_rev {sl : Addr} {vl vu vs : Value} {n : Nat} {Q : Int × Int × Nat → Shared → Prop} (hs : s.heap.IsSliceOf sl vl vu vs) (pl : IsPart vl none) (pu : IsPart vu none) (ps : IsPart vs (some (-1)))
    (h : Q ((n : Int) - 1, -1, n) s) : wpAny (model prog w) A (Builtin.Slice.sliceApplied (.ref sl) (pure (n : Int))) Q E s := by
  obtain ⟨os, hos, hcs, hds⟩ := id hs
  unfold Builtin.Slice.sliceApplied Builtin.Slice.sliceFields
  refine wpAny_bind (wpAny_bind (wpAny_field hos hds (x := vl) rfl (wpAny_bind (wpAny_field hos hds (x := vu) rfl (wpAny_bind (wpAny_field hos hds (x := vs) rfl (wpAny_pure ?_)))))))
  refine wpAny_bind (slicePart_ ps ?_)
  show wpAny _ _ (if ((-1 : Int) == 0) = true then _ else _) _ _ s
  rw [if_neg (by decide)]
  refine wpAny_bind (slicePart_ pl (wpAny_bind (slicePart_ pu (wpAny_bind (wpAny_pure ?_)))))
  show wpAny _ _ (match Builtin.Slice.sliceAdjust none none (-1) (n : Int) with | (lo, hi) => pure (lo, (-1 : Int), Builtin.Slice.slicePlaces lo hi (-1))) _ _ s
  rw [adjust_rev]
  show wpAny _ _ (pure ((n : Int) - 1, (-1 : Int), Builtin.Slice.slicePlaces ((n : Int) - 1) (-1) (-1))) _ _ s
  rw [places_rev]
  exact wpAny_pure h
theorem fm_congr {A B : Type} {f g : A → Option B} : ∀ {l : List A}, (∀ m, m ∈ l → f m = g m) → l.filterMap f = l.filterMap g
  | [], _ => rfl
  | a :: l, h => by
    rw [List.filterMap_cons, List.filterMap_cons, h a (List.mem_cons_self ..), fm_congr fun m hm => h m (List.mem_cons_of_mem _ hm)]
theorem pick_rev_l (l : List Value) : ((List.range l.length).filterMap fun (m : Nat) => l[(((l.length : Int) - 1) + (m : Int) * (-1)).toNat]?) = l.reverse := by
  refine List.ext_getElem? fun i => ?_
  have e : ((List.range l.length).filterMap fun (m : Nat) => l[(((l.length : Int) - 1) + (m : Int) * (-1)).toNat]?) = (List.range l.length).map fun (m : Nat) => (l[(((l.length : Int) - 1) + (m : Int) * (-1)).toNat]?).getD .none := by
    rw [← List.filterMap_eq_map]
    refine fm_congr fun m hm => ?_
    rw [List.mem_range] at hm
    have : (((l.length : Int) - 1) + (m : Int) * (-1)).toNat < l.length := by omega
    show l[(((l.length : Int) - 1) + (m : Int) * (-1)).toNat]? = some ((l[(((l.length : Int) - 1) + (m : Int) * (-1)).toNat]?).getD .none)
    rw [List.getElem?_eq_getElem this]
    rfl
  rw [e, List.getElem?_map]
  by_cases hi : i < l.length
  · rw [List.getElem?_range hi, List.getElem?_reverse hi, Option.map_some]
    have h2 : (((l.length : Int) - 1) + (i : Int) * (-1)).toNat = l.length - 1 - i := by omega
    rw [h2]
    have h3 : l.length - 1 - i < l.length := by omega
    rw [List.getElem?_eq_getElem h3]
    rfl
  · rw [List.getElem?_eq_none (by simpa using hi), List.getElem?_eq_none (by simpa using hi)]
    rfl
theorem pick_rev (xs : Array Value) : ((List.range xs.size).filterMap fun (m : Nat) => xs[(((xs.size : Int) - 1) + (m : Int) * (-1)).toNat]?).toArray = xs.toList.reverse.toArray := by
  have := pick_rev_l xs.toList
  rw [Array.length_toList] at this
  rw [← this]
  congr 1
  refine fm_congr fun m _ => ?_
  rw [Array.getElem?_toList]
theorem getItem_tuple_rev {t sl : Addr} {items : Array Value} {vl vu vs : Value} {Q : Value → Shared → Prop} (ht : IsTup s.heap t items) (hs : s.heap.IsSliceOf sl vl vu vs) (pl : IsPart vl none) (pu : IsPart vu none) (ps : IsPart vs (some (-1)))
    (h : Q (.ref s.heap.objs.size) { s with heap := s.heap.push { cls := .type "tuple", data := .seq items.toList.reverse.toArray } })
    (hsz : items.size ≤ sizeLine) : wpAny (model prog w) A (getItem (.ref t) (.ref sl)) Q E s := by
  have htake : sizeOk (.seq items.toList.reverse.toArray) := by
    show items.toList.reverse.toArray.size ≤ sizeLine
    rw [List.size_toArray, List.length_reverse, Array.length_toList]
    exact hsz
  obtain ⟨os, hos, hcs, hds⟩ := id hs
  have hTs : s.TypeIs (.ref sl) "slice" := ⟨os, hos, hcs⟩
  unfold getItem
  try with_reducible refine wpAny_holding ?_
  first | refine wpAny_bind (wpAny_pure ?_) | skip
  refine wpAny_bind (wpAny_sequenceKey ht.typeIs (by decide) ?_)
  refine wpAny_bind (wpAny_callSpecial?_slot (name := Str.ofString "__getitem__") ht.typeIs PyProof.Rows.slot_tuple_getitem
    (wpAny_call_entry PyProof.Rows.slot_tuple_getitem ht.typeIs entry_tuple_getitem ?_ (args_tuple_getitem _ _)))
  show wpAny _ _ (Builtin.Tuple.tupleItemsOf (.ref t) >>= _) _ _ s
  refine wpAny_bind (tupleItemsOf_ ht ?_)
  refine wpAny_bind (wpAny_typeOf hTs ?_)
  rw [if_pos (by decide)]
  refine wpAny_bind (sliceApplied_rev hs pl pu ps ?_)
  have hno : ¬ ((((items.size : Int) - 1) == 0 && (-1 : Int) == 1 && items.size == items.size) = true) := by
    intro q
    rw [Bool.and_eq_true, Bool.and_eq_true] at q
    exact absurd q.1.2 (by decide)
  show wpAny _ _ (if (((items.size : Int) - 1) == 0 && (-1 : Int) == 1 && items.size == items.size) = true then _ else _) _ _ s
  rw [if_neg hno, pick_rev]
  first
    | exact wpAny_bind (m := Builtin.Tuple.tupleExact _) (wpAny_newObj_type (wpAny_pure ⟨_, rfl, wpAny_pure h⟩) htake)
    | exact wpAny_bind (m := Builtin.Tuple.tupleExact _) (wpAny_newObj_type (wpAny_bind (wpAny_pure (wpAny_pure ⟨_, rfl, wpAny_pure h⟩))) htake)
    | exact wpAny_bind (wpAny_bind (m := Builtin.Tuple.tupleExact _) (wpAny_newObj_type (wpAny_pure (wpAny_pure ⟨_, rfl, wpAny_pure h⟩)) htake))
    | exact wpAny_bind (wpAny_bind (m := Builtin.Tuple.tupleExact _) (wpAny_newObj_type (wpAny_pure ⟨_, rfl, wpAny_pure h⟩) htake))
end
end HT2
namespace Mi
open PySem PySem.Spec PyProof.Rows L2
/-! ### subscripts -/
@[simp] def keyD : D → Option Key
  | .int i => some (.inl i)
  | .str x => some (.inr x)
  | _ => none
theorem keyD_rel {R : Rx} {α : List Addr} {H : Hp} {x : D} {k : Key} {v : V} (e : keyD x = some k) (r : RelD R α H x v) : v = kV k := by
  cases x with
  | int i => cases e; rw [r.int_inv]; rfl
  | str i => cases e; rw [r.str_inv]; rfl
  | _ => cases e
def valD (kvs : List (Key × D)) (k : Key) : Option D := (kvs.find? fun kv => decide (kv.1 = k)).map (·.2)
def putD (kvs : List (Key × D)) (k : Key) (v : D) : List (Key × D) :=
  if (kvs.any fun kv => decide (kv.1 = k)) = true then kvs.map (fun kv => if kv.1 = k then (kv.1, v) else kv) else kvs ++ [(k, v)]
section
variable {R : Rx} {α : List Addr} {H : Hp}
theorem RelKs.nil_inv {vs : List (Key × V)} (h : RelKs R α H [] vs) : vs = [] := by unfold RelKs at h; exact h
theorem RelKs.nil : RelKs R α H [] [] := by unfold RelKs; rfl
theorem RelKs.cons_inv {k : Key} {d : D} {r : List (Key × D)} {vs : List (Key × V)} (h : RelKs R α H ((k, d) :: r) vs) : ∃ v t, vs = (k, v) :: t ∧ RelD R α H d v ∧ RelKs R α H r t := by unfold RelKs at h; exact h
theorem RelKs.cons {k : Key} {d : D} {v : V} {r : List (Key × D)} {t : List (Key × V)} (h : RelD R α H d v) (h2 : RelKs R α H r t) : RelKs R α H ((k, d) :: r) ((k, v) :: t) := by unfold RelKs; exact ⟨v, t, rfl, h, h2⟩
theorem RelKs.length : ∀ {kvs : List (Key × D)} {vs : List (Key × V)}, RelKs R α H kvs vs → kvs.length = vs.length
  | [], _, r => by rw [r.nil_inv]; rfl
  | (k, d) :: t, vs, r => by
    obtain ⟨v, t', rfl, _, r2⟩ := r.cons_inv
    rw [List.length_cons, List.length_cons, r2.length]
theorem RelKs.val : ∀ {kvs : List (Key × D)} {vs : List (Key × V)} {k : Key}, RelKs R α H kvs vs → (valD kvs k = none ∧ valV vs k = none) ∨ ∃ d v, valD kvs k = some d ∧ valV vs k = some v ∧ RelD R α H d v
  | [], vs, k, r => by rw [r.nil_inv]; exact .inl ⟨rfl, rfl⟩
  | (k', d) :: t, vs, k, r => by
    obtain ⟨v, t', rfl, r1, r2⟩ := r.cons_inv
    by_cases e : k' = k
    · refine .inr ⟨d, v, ?_, ?_, r1⟩
      · simp [valD, List.find?_cons, e]
      · simp [valV, List.find?_cons, e]
    · rcases r2.val (k := k) with ⟨a, b⟩ | ⟨d', v', a, b, c⟩
      · refine .inl ⟨?_, ?_⟩
        · rw [← a]; simp [valD, List.find?_cons, e]
        · rw [← b]; simp [valV, List.find?_cons, e]
      · refine .inr ⟨d', v', ?_, ?_, c⟩
        · rw [← a]; simp [valD, List.find?_cons, e]
        · rw [← b]; simp [valV, List.find?_cons, e]
theorem RelKs.any : ∀ {kvs : List (Key × D)} {vs : List (Key × V)} {k : Key}, RelKs R α H kvs vs → (kvs.any fun kv => decide (kv.1 = k)) = (vs.any fun kv => decide (kv.1 = k))
  | [], vs, k, r => by rw [r.nil_inv]; rfl
  | (k', d) :: t, vs, k, r => by
    obtain ⟨v, t', rfl, r1, r2⟩ := r.cons_inv
    rw [List.any_cons, List.any_cons, r2.any]
theorem RelKs.map : ∀ {kvs : List (Key × D)} {vs : List (Key × V)} {k : Key} {d : D} {v : V}, RelKs R α H kvs vs → RelD R α H d v → RelKs R α H (kvs.map (fun kv => if kv.1 = k then (kv.1, d) else kv)) (vs.map (fun kv => if kv.1 = k then (kv.1, v) else kv))
  | [], vs, k, d, v, r, _ => by rw [r.nil_inv]; exact .nil
  | (k', d') :: t, vs, k, d, v, r, h => by
    obtain ⟨v', t', rfl, r1, r2⟩ := r.cons_inv
    rw [List.map_cons, List.map_cons]
    by_cases e : k' = k
    · dsimp only
      rw [if_pos e, if_pos e]
      exact .cons h (r2.map h)
    · dsimp only
      rw [if_neg e, if_neg e]
      exact .cons r1 (r2.map h)
theorem RelKs.append : ∀ {kvs kws : List (Key × D)} {vs ws : List (Key × V)}, RelKs R α H kvs vs → RelKs R α H kws ws → RelKs R α H (kvs ++ kws) (vs ++ ws)
  | [], _, vs, _, r, h => by rw [r.nil_inv]; exact h
  | (k', d') :: t, _, vs, _, r, h => by
    obtain ⟨v', t', rfl, r1, r2⟩ := r.cons_inv
    exact .cons r1 (r2.append h)
theorem RelKs.put {kvs : List (Key × D)} {vs : List (Key × V)} {k : Key} {d : D} {v : V} (r : RelKs R α H kvs vs) (h : RelD R α H d v) : RelKs R α H (putD kvs k d) (putK vs k v) := by
  unfold putD putK
  rw [r.any (k := k)]
  split
  · exact r.map h
  · exact r.append (.cons h .nil)
theorem RelDs.at {xs : List D} {vs : List V} {i : Int} {d : D} (r : RelDs R α H xs vs) (e : atI xs i = some d) : ∃ v, atI vs i = some v ∧ RelD R α H d v := by
  unfold atI at e ⊢
  rw [← r.length]
  cases e1 : ixN xs.length i with
  | none => rw [e1] at e; cases e
  | some j =>
    rw [e1] at e
    exact r.get e
end
@[simp] def ixSeq (xs : List D) (y : D) (h : Hd) : Res D := match y with
  | .int i => (match atI xs i with
    | some d => .ok d h
    | none => .no)
  | _ => .no
@[simp] def gIx : D → D → Hd → Res D := fun x y h => match x with
  | .tup xs => ixSeq xs y h
  | .str z => (match y with
    | .int i => (match atI z.cps.toList i with
      | some c => if z.length ≤ 16777216 then .ok (.str ⟨#[c]⟩) h else .no
      | none => .no)
    | _ => .no)
  | .ref k => (match h[k]? with
    | some (.lst xs) => ixSeq xs y h
    | some (.fro xs) => ixSeq xs y h
    | some (.dic kvs) => (match keyD y with
      | some ky => (match valD kvs ky with
        | some d => .ok d h
        | none => .no)
      | none => .no)
    | none => .no)
  | _ => .no
section
variable {Tt : List (Addr × Str)} {X : Cx} {R : Rx} {W : WX} {pos : Pos} {a b : Expr} {fa fb : Fe}
def IxD (X : Cx) (R : Rx) (g : D → D → Hd → Res D) : Prop :=
  ∀ (x y : D) (α : List Addr) (h : Hd) (H : Hp) (vx vy : V) (W : WX) (σ : St) (Q : VK), RH R α h H → RelD R α H x vx → RelD R α H y vy → FinE R W α H σ (g x y h) Q → ∃ r, IxR X r ∧ r vx vy H Q
theorem ix_dic (hu : X.A.units + 1 < cLine) : IxR X (fun x y H Q => ∃ a v, x = .ref a ∧ DGet H a y (some v) ∧ Q v H) := by
  intro value slice pins s σ H x y v u Q I rx ry h hs
  obtain ⟨a, z, rfl, g, q⟩ := h
  obtain rfl : v = Value.ref a := rx
  exact tail_any (dict_typeIs I g) PySem.F.slot_dict_getitem.lookup (d_getItem hu I g ry fun w' s3 I3 rw' => ⟨z, H, I3, rw', q⟩) hs
theorem ixd (hK : R.K = X.K) (hu : X.A.units + 1 < cLine) : IxD X R gIx := by
  intro x y α h H vx vy W σ Q rh rx ry f
  cases x with
  | tup xs =>
    cases y with
    | int i =>
      unfold gIx ixSeq at f
      dsimp only at f
      cases e : atI xs i with
      | none => rw [e] at f; exact f.elim
      | some d =>
        rw [e] at f
        obtain ⟨a, vs, rfl, q1, r1⟩ := rx.tup_inv
        obtain ⟨v, ev, rv⟩ := r1.at e
        rw [ry.int_inv]
        exact ⟨_, ix_tup, a, vs, i, v, rfl, rfl, hK ▸ q1, ev, f α H v .refl rh rv⟩
    | _ => exact (show False from f).elim
  | str z =>
    cases y with
    | int i =>
      unfold gIx at f
      dsimp only at f
      cases e : atI z.cps.toList i with
      | none => rw [e] at f; exact f.elim
      | some d =>
        rw [e] at f
        dsimp only at f
        split at f
        · rename_i hl
          rw [rx.str_inv, ry.int_inv]
          exact ⟨_, ix_str, z, i, d, rfl, rfl, by rw [lineEq]; exact hl, e, f α H _ .refl rh .str⟩
        · exact f.elim
    | _ => exact (show False from f).elim
  | ref k =>
    obtain ⟨a, ea, rfl⟩ := rx.ref_inv
    have seq : ∀ xs, (h[k]? = some (.lst xs) ∨ h[k]? = some (.fro xs)) → FinE R W α H σ (ixSeq xs y h) Q → ∃ r, IxR X r ∧ r (.ref a) vy H Q := fun xs hx f => by
      obtain ⟨vs, q1, r1⟩ := lst_of rh ea hx
      cases y with
      | int i =>
        unfold ixSeq at f
        dsimp only at f
        cases e : atI xs i with
        | none => rw [e] at f; exact f.elim
        | some d =>
          rw [e] at f
          obtain ⟨v, ev, rv⟩ := r1.at e
          rw [ry.int_inv]
          exact ⟨_, ix_list, a, vs, i, v, rfl, rfl, hK ▸ q1, ev, f α H v .refl rh rv⟩
      | _ => exact (show False from f).elim
    unfold gIx at f
    dsimp only at f
    obtain ⟨o, eo, ro⟩ := rh.at ea
    rw [eo] at f
    cases o with
    | lst xs => exact seq xs (.inl eo) f
    | fro xs => exact seq xs (.inr eo) f
    | dic kvs =>
      obtain ⟨vs, q1, r1⟩ := ro
      dsimp only at f
      cases e : keyD y with
      | none => rw [e] at f; exact f.elim
      | some ky =>
        rw [e] at f
        dsimp only at f
        rcases r1.val (k := ky) with ⟨z1, z2⟩ | ⟨d, v, z1, z2, rv⟩
        · rw [z1] at f; exact f.elim
        · rw [z1] at f
          exact ⟨_, ix_dic hu, a, v, rfl, .inl ⟨vs, ky, .inl q1, keyD_rel e ry, z2.symm⟩, f α H v .refl rh rv⟩
  | _ => exact (show False from f).elim
theorem de_ix {g : D → D → Hd → Res D} (hg : IxD X R g) (ha : DE X R W a fa) (hb : DE X R W b fb) (hs : PlainIx b := by intro _ _; rfl) : DE X R W (.Subscript a b pos) (eOp g fa fb) := by
  have hu : IxR X (fun x y H Q => ∃ r, IxR X r ∧ r x y H Q) := fun value slice pins s σ H x y v u Q I rx ry ⟨r, h1, h2⟩ hs => h1 value slice pins s σ H x y v u Q I rx ry h2 hs
  refine ⟨fun pins s σ H Q I h => (pe_ix (pos := pos) hu ha hb hs).run pins s σ H Q I ?_⟩
  obtain ⟨α, env, hp, re, rh, fi⟩ := h
  refine ⟨α, env, hp, re, rh, (Fin.split fi).imp fun v H1 hq => ?_⟩
  obtain ⟨d, α1, h1, _, x1, rh1, r1, f1⟩ := hq
  refine ⟨α1, env, h1, re.ext x1, rh1, (Fin.split f1).imp fun v2 H2 hq => ?_⟩
  obtain ⟨d2, α2, h2, _, x2, rh2, r2, f2⟩ := hq
  exact hg _ _ _ _ _ _ _ _ _ _ rh2 (RelD.ext x2 _ _ r1) r2 f2
end
/-! ### slices -/
abbrev Fo := En → Hd → Res (Option Int)
@[simp] def oNone : Fo := fun _ h => .ok none h
@[simp] def oSome (f : Fe) : Fo := fun env h => (f env h).bind fun d h1 => match d with
  | .int i => .ok (some i) h1
  | _ => .no
def cutD {A : Type} (xs : List A) (lo hi : Option Int) : List A := (xs.drop (HT.sIx xs.length 0 lo)).take (HT.sIx xs.length xs.length hi - HT.sIx xs.length 0 lo)
@[simp] def gSl : D → Option Int → Option Int → Hd → Res D := fun x lo hi h => match x with
  | .tup xs => .ok (.tup (cutD xs lo hi)) h
  | .str z => if z.length ≤ 16777216 then .ok (.str (Txt.slice z lo hi)) h else .no
  | .ref k => (match h[k]? with
    | some (.lst xs) => .ok (.ref h.length) (h ++ [.lst (cutD xs lo hi)])
    | some (.fro xs) => .ok (.ref h.length) (h ++ [.lst (cutD xs lo hi)])
    | _ => .no)
  | _ => .no
@[simp] def eSl (fe : Fe) (fl fu : Fo) : Fe := fun env h => (fe env h).bind fun x h1 => (fl env h1).bind fun l h2 => (fu env h2).bind fun u h3 => gSl x l u h3
@[simp] def revD : D → Hd → Res D := fun x h => match x with
  | .tup xs => .ok (.tup xs.reverse) h
  | .ref k => (match h[k]? with
    | some (.lst xs) => .ok (.ref h.length) (h ++ [.lst xs.reverse])
    | some (.fro xs) => .ok (.ref h.length) (h ++ [.lst xs.reverse])
    | _ => .no)
  | _ => .no
@[simp] def eRev (fe : Fe) : Fe := eUn revD fe
section
variable {Tt : List (Addr × Str)} {X : Cx} {R : Rx} {W : WX} {pos p2 : Pos} {e l u : Expr} {fe ff : Fe} {fl fu : Fo}
def tO (R : Rx) (W : WX) (f : Fo) : TO := fun σ H Q => ∃ α env h, RelEnv R α H env σ ∧ RH R α h H ∧ Fin (fun _ _ (a b : Option Int) => a = b) R W α H σ (f env h) Q
abbrev DO (X : Cx) (R : Rx) (W : WX) (e : Option Expr) (f : Fo) : Prop := PO X e (tO R W f)
theorem do_none : DO X R W none oNone := by
  refine ⟨fun pins s σ H Q I h => po_none.run pins s σ H Q I ?_⟩
  obtain ⟨α, env, hp, re, rh, fi⟩ := h
  exact fi α H none .refl rh rfl
theorem do_some (h : DE X R W e fe) : DO X R W (some e) (oSome fe) := by
  refine ⟨fun pins s σ H Q I hh => (po_some h).run pins s σ H Q I ?_⟩
  obtain ⟨α, env, hp, re, rh, fi⟩ := hh
  refine ⟨α, env, hp, re, rh, (Fin.split fi).imp fun v H1 hq => ?_⟩
  obtain ⟨d, α1, h1, _, x1, rh1, r1, f1⟩ := hq
  cases d with
  | int i => exact ⟨i, r1.int_inv, f1 α1 H1 _ .refl rh1 rfl⟩
  | _ => exact (show False from f1).elim
theorem RelDs.cut {α : List Addr} {H : Hp} {xs : List D} {vs : List V} (r : RelDs R α H xs vs) (lo hi : Option Int) : RelDs R α H (cutD xs lo hi) (cutV vs lo hi) := by
  unfold cutD cutV
  rw [← r.length]
  exact (r.drop _).take _
theorem cut_whole {xs : List D} {lo hi : Option Int} (h : HT.sIx xs.length 0 lo = 0 ∧ HT.sIx xs.length xs.length hi = xs.length) : cutD xs lo hi = xs := by
  unfold cutD
  rw [h.1, h.2, Nat.sub_zero, List.drop_zero, List.take_length]
theorem de_sl (hK : R.K = X.K) (he : DE X R W e fe) {lo hi : Option Expr} (hl : DO X R W lo fl) (hu : DO X R W hi fu) : DE X R W (.Subscript e (.Slice lo hi none p2) pos) (eSl fe fl fu) := by
  have hU : SlR X (fun x lo hi H Q => ∃ r, SlR X r ∧ r x lo hi H Q) := fun pins s σ H x v vl vu lo hi sl Q I rx hs pl pu ⟨r, h1, h2⟩ => h1 pins s σ H x v vl vu lo hi sl Q I rx hs pl pu h2
  refine ⟨fun pins s σ H Q I h => (pe_slice (pos := pos) (p2 := p2) hU he hl hu).run pins s σ H Q I ?_⟩
  obtain ⟨α, env, hp, re, rh, fi⟩ := h
  refine ⟨α, env, hp, re, rh, (Fin.split fi).imp fun v H1 hq => ?_⟩
  obtain ⟨x, α1, h1, _, x1, rh1, r1, f1⟩ := hq
  refine ⟨α1, env, h1, re.ext x1, rh1, (Fin.split f1).imp fun lo H2 hq => ?_⟩
  obtain ⟨l, α2, h2, _, x2, rh2, (rfl : l = lo), f2⟩ := hq
  refine ⟨α2, env, h2, (re.ext x1).ext x2, rh2, (Fin.split f2).imp fun hi H3 hq => ?_⟩
  obtain ⟨u, α3, h3, _, x3, rh3, (rfl : u = hi), f3⟩ := hq
  have rx := RelD.ext (x2.trans x3) _ _ r1
  cases x with
  | tup xs =>
    obtain ⟨a, vs, rfl, q1, r2⟩ := rx.tup_inv
    refine ⟨_, sl_tupA, a, vs, rfl, hK ▸ q1, fun hw => ?_, fun hw p hp => ?_⟩
    · rw [← r2.length] at hw
      refine f3 α3 H3 _ .refl rh3 ?_
      rw [cut_whole hw]
      exact .tup q1 r2
    · obtain ⟨a1, b1, c1⟩ := new_tup rh3 (r2.cut l u) hp
      exact f3 _ _ _ a1 b1 c1
  | str z =>
    unfold gSl at f3
    dsimp only at f3
    split at f3
    · rename_i hz
      rw [rx.str_inv]
      exact ⟨_, C8.sl_txt, z, rfl, by rw [lineEq]; exact hz, f3 α3 H3 _ .refl rh3 .str⟩
    · exact f3.elim
  | ref k =>
    obtain ⟨a, ea, rfl⟩ := rx.ref_inv
    have seq : ∀ xs, (h3[k]? = some (.lst xs) ∨ h3[k]? = some (.fro xs)) → FinE R W α3 H3 σ (.ok (.ref h3.length) (h3 ++ [.lst (cutD xs l u)])) Q → ∃ r, SlR X r ∧ r (.ref a) l u H3 Q := fun xs hx f => by
      obtain ⟨vs, q1, r2⟩ := lst_of rh3 ea hx
      refine ⟨_, sl_list, a, vs, rfl, hK ▸ q1, fun p hp => ?_⟩
      obtain ⟨a1, b1, c1⟩ := new_lst rh3 (r2.cut l u) hp
      exact f _ _ _ a1 b1 c1
    unfold gSl at f3
    dsimp only at f3
    obtain ⟨o, eo, ro⟩ := rh3.at ea
    rw [eo] at f3
    cases o with
    | lst xs => exact seq xs (.inl eo) f3
    | fro xs => exact seq xs (.inr eo) f3
    | dic kvs => exact (show False from f3).elim
  | _ => exact (show False from f3).elim
/-- e[::-1] -/
def tRevA (K : PySem.W.Frag) (te : TE) : TE := fun σ H Q => te σ H fun x H1 => ∃ a xs, x = .ref a ∧ ((SqL K H1 a xs ∧ ∀ p, H1 p = none → Q (.ref p) (upd H1 p (.lst xs.reverse))) ∨ (SqT K H1 a xs ∧ ∀ p, H1 p = none → Q (.ref p) (upd H1 p (.tup xs.reverse))))
theorem pe_revA {te : TE} {k : Nat} {p1 p2 p3 pos : Pos} (he : PE X e te) : PE X (.Subscript e (.Slice none none (some (.UnaryOp .USub (.Constant (.int 1) k p1) p2)) p3) pos) (tRevA X.K te) := by
  refine ⟨fun pins s σ H Q I h => ?_⟩
  refine Subscript_ (thn (he.run pins s σ H _ I h) fun v s1 ⟨x, H1, I1, r1, q1⟩ => ?_)
  obtain ⟨a, xs, ex, q⟩ := q1
  subst ex
  cases r1
  have hst : PO X (some (.UnaryOp .USub (.Constant (.int 1) k p1) p2)) (tPart (tUn (rU fun i => .int (-i)) (tC (.int 1)))) := po_some (pe_un un_neg pe_int)
  refine wpAny_Slice (thn (po_none.run pins s1 σ H1 (fun o H2 => o = none ∧ H2 = H1) I1 ⟨rfl, rfl⟩) fun vl s2 ⟨l, H2, I2, pl, el, e2⟩ => ?_)
  subst el e2
  refine thn (po_none.run pins s2 σ H2 (fun o H3 => o = none ∧ H3 = H2) I2 ⟨rfl, rfl⟩) fun vu s3 ⟨u, H3, I3, pu, eu, e3⟩ => ?_
  subst eu e3
  refine thn (hst.run pins s3 σ H3 (fun o H4 => o = some (-1) ∧ H4 = H3) I3 ⟨1, rfl, -1, rfl, rfl, rfl⟩) fun vs s4 ⟨o, H4, I4, ps, eo, e4⟩ => ?_
  subst eo e4
  have I5 : Inv X pins σ H4 { s4 with heap := s4.heap.push { cls := .type "slice", data := .fields #[vl, vu, vs] } } := I4.kept (t' := s4.toks) fun b ob q => Heap.get?_push_of_some _ q
  show wpAny (model X.prog X.w) X.A (subscriptTail e (.Slice none none (some (.UnaryOp .USub (.Constant (.int 1) k p1) p2)) p3) (.ref a) (.ref s4.heap.objs.size)) (EP X pins σ Q) X.xe { s4 with heap := s4.heap.push { cls := .type "slice", data := .fields #[vl, vu, vs] } }
  rcases q with ⟨hx, q⟩ | ⟨hx, q⟩
  · obtain ⟨its, r, ht, hz⟩ := I5.list hx
    have hlen := r.length
    refine tail_any (ops := [.ref a, .ref s4.heap.objs.size]) ht.isList.typeIs (PySem.slot_list_getitem.lookup) ?_ (by with_unfolding_all rfl)
    refine wpAny_getItem_list_slice ht.isList (Heap.IsSliceOf.new _ vl vu vs) pl pu ps (by decide) ?_ (by rw [List.size_toArray]; omega)
    rw [PySem.W.krv_pick]
    refine ⟨.ref _, _, I5.laid (t' := s4.toks) (o := .lst xs.reverse) (fun b ob q => Heap.get?_push_of_some _ q) (Nat.le_refl _) ?_, rfl, q _ (I5.hok.fresh (Nat.le_refl _))⟩
    exact ⟨by rw [List.length_reverse]; exact hz, _, 0, r.reverse, Heap.get?_push_size _ rfl⟩
  · obtain ⟨its, r, ht, hz⟩ := I5.tuple hx
    have hlen := r.length
    refine tail_any (ops := [.ref a, .ref s4.heap.objs.size]) ht.typeIs (PyProof.Rows.slot_tuple_getitem.lookup) ?_ (by with_unfolding_all rfl)
    refine HT2.getItem_tuple_rev ht (Heap.IsSliceOf.new _ vl vu vs) pl pu ps ?_ (by rw [List.size_toArray]; omega)
    refine ⟨.ref _, _, I5.laid (t' := s4.toks) (o := .tup xs.reverse) (fun b ob q => Heap.get?_push_of_some _ q) (Nat.le_refl _) ?_, rfl, q _ (I5.hok.fresh (Nat.le_refl _))⟩
    exact ⟨by rw [List.length_reverse]; exact hz, _, r.reverse, IsTup.new _ _⟩
theorem de_rev (hK : R.K = X.K) {k : Nat} {p1 p2 p3 pos : Pos} (he : DE X R W e fe) : DE X R W (.Subscript e (.Slice none none (some (.UnaryOp .USub (.Constant (.int 1) k p1) p2)) p3) pos) (eRev fe) := by
  refine ⟨fun pins s σ H Q I h => (pe_revA he).run pins s σ H Q I ?_⟩
  obtain ⟨α, env, hp, re, rh, fi⟩ := h
  refine ⟨α, env, hp, re, rh, (Fin.split fi).imp fun v H1 hq => ?_⟩
  obtain ⟨x, α1, h1, _, x1, rh1, r1, f1⟩ := hq
  cases x with
  | tup xs =>
    obtain ⟨a, vs, rfl, q1, r2⟩ := r1.tup_inv
    refine ⟨a, vs, rfl, .inr ⟨hK ▸ q1, fun p hp => ?_⟩⟩
    obtain ⟨a1, b1, c1⟩ := new_tup rh1 r2.reverse hp
    exact f1 _ _ _ a1 b1 c1
  | ref k =>
    obtain ⟨a, ea, rfl⟩ := r1.ref_inv
    have seq : ∀ xs, (h1[k]? = some (.lst xs) ∨ h1[k]? = some (.fro xs)) → FinE R W α1 H1 σ (.ok (.ref h1.length) (h1 ++ [.lst xs.reverse])) Q → ∃ a' xs, V.ref a = .ref a' ∧ ((SqL X.K H1 a' xs ∧ ∀ p, H1 p = none → Q (.ref p) (upd H1 p (.lst xs.reverse))) ∨ (SqT X.K H1 a' xs ∧ ∀ p, H1 p = none → Q (.ref p) (upd H1 p (.tup xs.reverse)))) := fun xs hx f => by
      obtain ⟨vs, q1, r2⟩ := lst_of rh1 ea hx
      refine ⟨a, vs, rfl, .inl ⟨hK ▸ q1, fun p hp => ?_⟩⟩
      obtain ⟨a1, b1, c1⟩ := new_lst rh1 r2.reverse hp
      exact f _ _ _ a1 b1 c1
    unfold revD at f1
    dsimp only at f1
    obtain ⟨o, eo, ro⟩ := rh1.at ea
    rw [eo] at f1
    cases o with
    | lst xs => exact seq xs (.inl eo) f1
    | fro xs => exact seq xs (.inr eo) f1
    | dic kvs => exact (show False from f1).elim
  | _ => exact (show False from f1).elim
end
end Mi

set_option Elab.async false
set_option linter.all false
set_option maxRecDepth 100000
set_option maxHeartbeats 1000000
/-! ### min, max, sum, all, any of a tuple -/
namespace TupW
open PySem PySem.Spec PyProof.Rows
section
variable {prog : Program} {w : World} {A : Around} {E : Value → Shared → Prop} {s : Shared} {l : Addr} {xs : Array (Int × Tok)} {its : List Value} {ns : List Int}
theorem iter_tup {items : Array Value} {Q : Value → Shared → Prop} (hl : s.heap.IsTuple l items)
    (h : ∀ s₂ : Shared, s₂ = { s with heap := s.heap.push { cls := .type "tuple_iterator", data := .fields #[.ref l, .int 0 0] } } →
      (s₂.heap.IsTupleIter s.heap.objs.size l 0 ∧ s₂.heap.IsTuple l items) → (∀ b ∈ [s.heap.objs.size, l], b < s₂.heap.objs.size) → l ≠ s.heap.objs.size → Q (.ref s.heap.objs.size) s₂) :
    wpAny (model prog w) A (pyIter (.ref l)) Q E s := by
  have hlt : l < s.heap.objs.size := by obtain ⟨_, e, _⟩ := hl; exact Heap.lt_size e
  refine wpAny_pyIter_tuple hl (h _ rfl ⟨⟨_, Heap.get?_push_size _ rfl, rfl, rfl⟩, hl.push _⟩ (fun b hb => ?_) (Nat.ne_of_lt hlt))
  show b < (s.heap.push _).objs.size
  rw [Heap.size_push]
  rcases List.mem_cons.mp hb with rfl | hb
  · exact Nat.lt_succ_self _
  · rcases List.mem_cons.mp hb with rfl | hb
    · exact Nat.lt_succ_of_lt hlt
    · cases hb
theorem old_keptT {ob : Obj} {h' : Heap} (hk : ∀ b o, b ∉ [s.heap.objs.size] → (s.heap.push ob).get? b = some o → h'.get? b = some o) :
    ∀ b o, s.heap.get? b = some o → h'.get? b = some o := fun b o e => by
  refine hk b o (fun hm => ?_) (Heap.get?_push_of_some _ e)
  rcases List.mem_cons.mp hm with e1 | hm
  · exact absurd (e1 ▸ Heap.lt_size e) (Nat.lt_irrefl _)
  · cases hm
theorem max_tup {Q : Value → Shared → Prop} (hh : A.handled = none) (hl : s.heap.IsTuple l its.toArray) (hi : IntsAre its ns) (hne : 0 < ns.length)
    (h : ∀ h' tk M t', (∀ b o, s.heap.get? b = some o → h'.get? b = some o) → M ∈ ns → (∀ a, a ∈ ns → a ≤ M) → Q (.int M t') { s with heap := h', toks := tk }) : wpAny (model prog w) A (call (.builtin "max") [.ref l]) Q E s := by
  obtain ⟨xs, e⟩ := hi.allInts.items
  have hn : numsOf (intItems xs).toList = ns := by rw [← e]; exact hi.numsOf
  rw [nums_intItems] at hn
  subst hn
  rw [e] at hl
  have hsz : 0 < xs.size := by simpa using hne
  refine call_max_walk (iter_tup hl fun s₂ e st hfp hlI => ?_)
  subst e
  refine ⟨_, _, _, _, _, _, _, rfl, Walks.tuple (A := A.in1) hh _ l hlI (intItems xs), st, hfp, by simpa [intItems] using hsz, CmpOf.ints_gt (numAt xs) (fun _ _ => intItems_at), fun v h' tk hP hk => ?_⟩
  obtain ⟨t, rfl⟩ := intItems_at (xs := xs) (by simpa [intItems] using hP)
  obtain ⟨h1, h2⟩ := argBest_gt (numAt xs) (xs.size - 1)
  simp only [gt_iff_lt] at h1 h2
  refine h h' tk _ t (old_keptT hk) ?_ fun a ha => ?_
  · rw [numAt_eq]; exact PySem.getD_mem (by rw [List.length_map, Array.length_toList]; omega)
  · obtain ⟨j, hj, rfl⟩ := mem_getD ha
    rw [List.length_map, Array.length_toList] at hj
    rw [← numAt_eq]; exact h2 j (by omega)
theorem min_tup {Q : Value → Shared → Prop} (hh : A.handled = none) (hl : s.heap.IsTuple l its.toArray) (hi : IntsAre its ns) (hne : 0 < ns.length)
    (h : ∀ h' tk M t', (∀ b o, s.heap.get? b = some o → h'.get? b = some o) → M ∈ ns → (∀ a, a ∈ ns → M ≤ a) → Q (.int M t') { s with heap := h', toks := tk }) : wpAny (model prog w) A (call (.builtin "min") [.ref l]) Q E s := by
  obtain ⟨xs, e⟩ := hi.allInts.items
  have hn : numsOf (intItems xs).toList = ns := by rw [← e]; exact hi.numsOf
  rw [nums_intItems] at hn
  subst hn
  rw [e] at hl
  have hsz : 0 < xs.size := by simpa using hne
  refine call_min_walk (iter_tup hl fun s₂ e st hfp hlI => ?_)
  subst e
  refine ⟨_, _, _, _, _, _, _, rfl, Walks.tuple (A := A.in1) hh _ l hlI (intItems xs), st, hfp, by simpa [intItems] using hsz, CmpOf.ints_lt (numAt xs) (fun _ _ => intItems_at), fun v h' tk hP hk => ?_⟩
  obtain ⟨t, rfl⟩ := intItems_at (xs := xs) (by simpa [intItems] using hP)
  obtain ⟨h1, h2⟩ := argBest_lt (numAt xs) (xs.size - 1)
  refine h h' tk _ t (old_keptT hk) ?_ fun a ha => ?_
  · rw [numAt_eq]; exact PySem.getD_mem (by rw [List.length_map, Array.length_toList]; omega)
  · obtain ⟨j, hj, rfl⟩ := mem_getD ha
    rw [List.length_map, Array.length_toList] at hj
    rw [← numAt_eq]; exact h2 j (by omega)
theorem sum_tup {Q : Value → Shared → Prop} (hh : A.handled = none) (hl : s.heap.IsTuple l its.toArray) (hi : IntsAre its ns)
    (h : ∀ h' tk t', (∀ b o, s.heap.get? b = some o → h'.get? b = some o) → Q (.int ns.sum t') { s with heap := h', toks := tk }) : wpAny (model prog w) A (call (.builtin "sum") [.ref l]) Q E s := by
  obtain ⟨xs, e⟩ := hi.allInts.items
  have hn : numsOf (intItems xs).toList = ns := by rw [← e]; exact hi.numsOf
  rw [nums_intItems] at hn
  rw [e] at hl
  refine call_sum_walkG (iter_tup hl fun s₂ e st hfp hlI => ?_)
  subst e
  refine ⟨_, _, _, _, _, _, numAt xs, rfl, Walks.tuple (A := A.in1) hh _ l hlI (intItems xs), st, hfp, (fun _ _ => intItems_at), fun h' tk t' hk => ?_⟩
  have := h h' tk t' (old_keptT hk)
  have hz : (intItems xs).size = xs.size := by simp [intItems]
  rw [hz, preSum_eq, List.take_of_length_le (by simp), hn]
  exact this
end
end TupW
namespace Mi
open PySem PySem.Spec PyProof.Rows L2
/-! ### the parts of a walkable -/
@[simp] def seqD : D → Hd → Option (List D)
  | .tup xs, _ => some xs
  | .ref k, h => (match h[k]? with
    | some (.lst xs) => some xs
    | some (.fro xs) => some xs
    | _ => none)
  | _, _ => none
theorem seq_of {R : Rx} {α : List Addr} {H : Hp} {h : Hd} {x : D} {v : V} {xs : List D} (rh : RH R α h H) (r : RelD R α H x v) (e : seqD x h = some xs) : ∃ a vs, v = .ref a ∧ (SqL R.K H a vs ∨ SqT R.K H a vs) ∧ RelDs R α H xs vs := by
  cases x with
  | tup ys => cases e; obtain ⟨a, vs, rfl, q, r⟩ := r.tup_inv; exact ⟨a, vs, rfl, .inr q, r⟩
  | ref k =>
    obtain ⟨a, ea, rfl⟩ := r.ref_inv
    unfold seqD at e
    dsimp only at e
    obtain ⟨o, eo, ro⟩ := rh.at ea
    rw [eo] at e
    cases o with
    | lst ys => cases e; obtain ⟨vs, q, r⟩ := lst_of rh ea (.inl eo); exact ⟨a, vs, rfl, .inl q, r⟩
    | fro ys => cases e; obtain ⟨vs, q, r⟩ := lst_of rh ea (.inr eo); exact ⟨a, vs, rfl, .inl q, r⟩
    | dic ys => cases e
  | _ => cases e
@[simp] def boolsD : List D → Option (List Bool)
  | [] => some []
  | .bl i :: r => (match boolsD r with
    | some l => some (i :: l)
    | none => none)
  | _ => none
theorem boolsD_rel {R : Rx} {α : List Addr} {H : Hp} : ∀ {ds : List D} {ns : List Bool} {vs : List V}, boolsD ds = some ns → RelDs R α H ds vs → vs = ns.map V.bl
  | [], ns, vs, e, r => by unfold boolsD at e; cases e; rw [r.nil_inv]; rfl
  | d :: ds, ns, vs, e, r => by
    obtain ⟨v, r', rfl, h1, h2⟩ := r.cons_inv
    cases d with
    | bl i =>
      unfold boolsD at e
      cases e2 : boolsD ds with
      | none => rw [e2] at e; cases e
      | some l =>
        rw [e2] at e
        cases e
        rw [boolsD_rel e2 h2, h1.bl_inv]
        rfl
    | _ => unfold boolsD at e; cases e
/-! ### calls of built-ins -/
abbrev Gc := List D → Hd → Res D
def CallD (X : Cx) (R : Rx) (f : Value) (g : Gc) : Prop :=
  ∀ (ds : List D) (α : List Addr) (h : Hd) (H : Hp) (vs : List V) (W : WX) (σ : St) (Q : VK), RH R α h H → RelDs R α H ds vs → FinE R W α H σ (g ds h) Q → ∃ r, CallR X f r ∧ r vs H Q
section
variable {X : Cx} {R : Rx} {W : WX} {x : Str} {p pos : Pos} {e : Expr} {es : List Expr} {fa : Fa} {bid T : String} {g : Gc}
theorem de_callB (hc : CallD X R (.builtin bid) g) (hg : Gl X x) (hm : X.mg x = none) (hv : bootBuiltins x = some (.builtin bid)) (ha : DA X R W (e :: es) fa) (hn : x ≠ "__name__" := by decide) (hdb : (x == ("__debug__" : Str)) = false := by decide)
    (he : starEach (e :: es) X.env = (false, eval e X.env) :: starEach es X.env := by rfl) (hpl : (backTo pos (starEach es X.env)).any (·.1) = false := by rfl) : DE X R W (.Call (.Name x p) (e :: es) [] pos) (eCall g fa) := by
  have hU : CallR X (.builtin bid) (fun vs H Q => ∃ r, CallR X (.builtin bid) r ∧ r vs H Q) := fun pins s σ H xs us Q I rs ⟨r, h1, h2⟩ => h1 pins s σ H xs us Q I rs h2
  refine ⟨fun pins s σ H Q I h => (pe_callB (p := p) (pos := pos) hU hg hm hv ha hn hdb he hpl).run pins s σ H Q I ?_⟩
  obtain ⟨α, env, hp, re, rh, fi⟩ := h
  refine ⟨α, env, hp, re, rh, (Fin.split (g := g) fi).imp fun v H1 hq => ?_⟩
  obtain ⟨d, α1, h1, _, x1, rh1, r1, f1⟩ := hq
  exact hc _ _ _ _ _ _ _ _ rh1 r1 f1
theorem de_callT (hc : CallD X R (.type T) g) (hg : Gl X x) (hm : X.mg x = none) (hv : bootBuiltins x = some (.type T)) (ha : DA X R W (e :: es) fa) (hn : x ≠ "__name__" := by decide) (hdb : (x == ("__debug__" : Str)) = false := by decide)
    (he : starEach (e :: es) X.env = (false, eval e X.env) :: starEach es X.env := by rfl) (hpl : (backTo pos (starEach es X.env)).any (·.1) = false := by rfl) : DE X R W (.Call (.Name x p) (e :: es) [] pos) (eCall g fa) := by
  have hU : CallR X (.type T) (fun vs H Q => ∃ r, CallR X (.type T) r ∧ r vs H Q) := fun pins s σ H xs us Q I rs ⟨r, h1, h2⟩ => h1 pins s σ H xs us Q I rs h2
  refine ⟨fun pins s σ H Q I h => (pe_callTy (p := p) (pos := pos) hU hg hm hv ha hn hdb he hpl).run pins s σ H Q I ?_⟩
  obtain ⟨α, env, hp, re, rh, fi⟩ := h
  refine ⟨α, env, hp, re, rh, (Fin.split (g := g) fi).imp fun v H1 hq => ?_⟩
  obtain ⟨d, α1, h1, _, x1, rh1, r1, f1⟩ := hq
  exact hc _ _ _ _ _ _ _ _ rh1 r1 f1
@[simp] def gLen : Gc := fun ds h => match ds with
  | [.str z] => if z.length ≤ 16777216 then .ok (.int (z.length : Nat)) h else .no
  | [x] => (match seqD x h with
    | some xs => .ok (.int (xs.length : Nat)) h
    | none => .no)
  | _ => .no
@[simp] def gList : Gc := fun ds h => match ds with
  | [x] => (match seqD x h with
    | some xs => .ok (.ref h.length) (h ++ [.lst xs])
    | none => .no)
  | _ => .no
@[simp] def gTuple : Gc := fun ds h => match ds with
  | [x] => (match seqD x h with
    | some xs => .ok (.tup xs) h
    | none => .no)
  | _ => .no
def minL : List Int → Int
  | [] => 0
  | [n] => n
  | n :: r => if n ≤ minL r then n else minL r
def maxL : List Int → Int
  | [] => 0
  | [n] => n
  | n :: r => if maxL r ≤ n then n else maxL r
def gMinMax (one : List Int → Int) (two : Int → Int → Int) : Gc := fun ds h => match ds with
  | [.int i, .int j] => .ok (.int (two i j)) h
  | [x] => (match seqD x h with
    | some xs => (match intsD xs with
      | some (n :: r) => .ok (.int (one (n :: r))) h
      | _ => .no)
    | none => .no)
  | _ => .no
def gMin : Gc := gMinMax minL fun i j => if j < i then j else i
def gMax : Gc := gMinMax maxL fun i j => if j > i then j else i
def gSum : Gc := fun ds h => match ds with
  | [x] => (match seqD x h with
    | some xs => (match intsD xs with
      | some ns => .ok (.int ns.sum) h
      | none => .no)
    | none => .no)
  | _ => .no
def gAbs : Gc := fun ds h => match ds with
  | [.int i] => .ok (.int (if i < 0 then -i else i)) h
  | _ => .no
@[simp] def lstD : D → Hd → Option (List D)
  | .ref k, h => (match h[k]? with
    | some (.lst xs) => some xs
    | some (.fro xs) => some xs
    | _ => none)
  | _, _ => none
theorem lstD_of {α : List Addr} {H : Hp} {h : Hd} {x : D} {v : V} {xs : List D} (rh : RH R α h H) (r : RelD R α H x v) (e : lstD x h = some xs) : ∃ a vs, v = .ref a ∧ SqL R.K H a vs ∧ RelDs R α H xs vs := by
  cases x with
  | ref k =>
    obtain ⟨a, ea, rfl⟩ := r.ref_inv
    unfold lstD at e
    dsimp only at e
    obtain ⟨o, eo, ro⟩ := rh.at ea
    rw [eo] at e
    cases o with
    | lst ys => cases e; obtain ⟨vs, q, r⟩ := lst_of rh ea (.inl eo); exact ⟨a, vs, rfl, q, r⟩
    | fro ys => cases e; obtain ⟨vs, q, r⟩ := lst_of rh ea (.inr eo); exact ⟨a, vs, rfl, q, r⟩
    | dic ys => cases e
  | _ => cases e
def gAll : Gc := fun ds h => match ds with
  | [x] => (match lstD x h with
    | some xs => (match boolsD xs with
      | some bs => .ok (.bl (bs.all id)) h
      | none => .no)
    | none => .no)
  | _ => .no
def gAny : Gc := fun ds h => match ds with
  | [x] => (match lstD x h with
    | some xs => (match boolsD xs with
      | some bs => .ok (.bl (bs.any id)) h
      | none => .no)
    | none => .no)
  | _ => .no
def insI (n : Int) : List Int → List Int
  | [] => [n]
  | m :: r => if n ≤ m then n :: m :: r else m :: insI n r
def sortI : List Int → List Int
  | [] => []
  | n :: r => insI n (sortI r)
def gSorted : Gc := fun ds h => match ds with
  | [x] => (match lstD x h with
    | some xs => (match intsD xs with
      | some ns => .ok (.ref h.length) (h ++ [.lst ((sortI ns).map .int)])
      | none => .no)
    | none => .no)
  | _ => .no
def gInt : Gc := fun ds h => match ds with
  | [.int i] => .ok (.int i) h
  | [.bl k] => .ok (.int (if k = true then 1 else 0)) h
  | _ => .no
def repOk (d : PyData) : Bool := d.showable && !d.hasDict && decide (d.depth ≤ 60) && decide (d.shown.length ≤ 16777216)
def gRepr : Gc := fun ds h => match ds with
  | [x] => (match toP maxP h x with
    | some d => if repOk d = true then .ok (.str d.shown) h else .no
    | none => .no)
  | _ => .no
@[simp] def tyName : D → Hd → Option String
  | .non, _ => some "NoneType"
  | .bl _, _ => some "bool"
  | .int _, _ => some "int"
  | .str _, _ => some "str"
  | .tup _, _ => some "tuple"
  | .ref k, h => (match h[k]? with
    | some (.lst _) => some "list"
    | some (.fro _) => some "list"
    | some (.dic _) => some "dict"
    | none => none)
  | _, _ => none
def tys : List String := ["NoneType", "bool", "int", "str", "list", "tuple", "dict"]
def tqs : List String := ["bool", "int", "str", "list", "tuple", "dict"]
theorem kit_tab (K : PySem.W.Frag) : ∀ a ∈ tys, ∀ b ∈ tqs, PySem.W.kitOne K (.type a) (.type b) = some (a == b || (a == "bool" && b == "int")) := by
  intro a ha b hb
  simp only [tys, tqs, List.mem_cons, List.mem_nil_iff, or_false] at ha hb
  rcases ha with rfl | rfl | rfl | rfl | rfl | rfl | rfl <;> rcases hb with rfl | rfl | rfl | rfl | rfl | rfl <;> first | rfl | decide +kernel | kernel_rfl
theorem ty_of {K : PySem.W.Frag} {α : List Addr} {H : Hp} {h : Hd} {x : D} {v : V} {t : String} (hK : R.K = K) (rh : RH R α h H) (r : RelD R α H x v) (e : tyName x h = some t) : t ∈ tys ∧ TyX K H v (.type t) := by
  cases x with
  | non => cases e; rw [r.non_inv]; exact ⟨by decide, .base .non⟩
  | bl b => cases e; rw [r.bl_inv]; exact ⟨by decide, .base (.bl _)⟩
  | int b => cases e; rw [r.int_inv]; exact ⟨by decide, .base (.int _)⟩
  | str b => cases e; rw [r.str_inv]; exact ⟨by decide, .base (.str _)⟩
  | tup xs =>
    cases e
    obtain ⟨a, vs, rfl, q, r⟩ := r.tup_inv
    refine ⟨by decide, ?_⟩
    rcases q with (q | ⟨o, q⟩) | ⟨o, its, n, k1, k2, k3, k4, k5⟩
    · exact .base (.tup q)
    · exact .fTuple q
    · exact .kTuple (hK ▸ k1) k2
  | ref k =>
    obtain ⟨a, ea, rfl⟩ := r.ref_inv
    unfold tyName at e
    dsimp only at e
    obtain ⟨o, eo, ro⟩ := rh.at ea
    rw [eo] at e
    cases o with
    | lst ys => cases e; obtain ⟨vs, q, _⟩ := ro; exact ⟨by decide, .base (.lst q)⟩
    | fro ys => cases e; obtain ⟨vs, ob, q, _⟩ := ro; exact ⟨by decide, .base (.frz q)⟩
    | dic ys => cases e; obtain ⟨vs, q, _⟩ := ro; exact ⟨by decide, .base (.dK q)⟩
  | _ => cases e
@[simp] def gIsi : Gc := fun ds h => match ds with
  | [x, .ty T] => (match tyName x h with
    | some t => if tqs.contains T = true then .ok (.bl (t == T || (t == "bool" && T == "int"))) h else .no
    | none => .no)
  | _ => .no

theorem cd_len (hK : R.K = X.K) : CallD X R (.builtin "len") gLen := by
  intro ds α h H vs W σ Q rh rd f
  have go : ∀ x, ds = [x] → FinE R W α H σ (match seqD x h with
    | some xs => .ok (.int (xs.length : Nat)) h
    | none => .no) Q → ∃ r, CallR X (.builtin "len") r ∧ r vs H Q := fun x e f2 => by
    clear f
    subst e
    obtain ⟨v, rfl, r⟩ := rd.one
    cases e : seqD x h with
    | none => rw [e] at f2; exact f2.elim
    | some xs =>
      rw [e] at f2
      obtain ⟨a, ws, rfl, q, r2⟩ := seq_of rh r e
      rw [hK] at q
      exact ⟨_, call_len_seq, a, ws, rfl, q, by rw [← r2.length]; exact f2 α H _ .refl rh .int⟩
  cases ds with
  | nil => exact (show False from f).elim
  | cons x t =>
    cases t with
    | cons _ _ => cases x <;> exact (show False from f).elim
    | nil =>
      cases x with
      | str z =>
        unfold gLen at f
        dsimp only at f
        split at f
        · rename_i hz
          obtain ⟨v, rfl, r⟩ := rd.one
          rw [r.str_inv]
          exact ⟨_, call_len_str, z, rfl, by rw [lineEq]; exact hz, f α H _ .refl rh .int⟩
        · exact f.elim
      | _ => exact go _ rfl f
theorem one_of {g : Gc} {f : Value} (g1 : ∀ (x : D) (α : List Addr) (h : Hd) (H : Hp) (v : V) (W : WX) (σ : St) (Q : VK), RH R α h H → RelD R α H x v → FinE R W α H σ (g [x] h) Q → ∃ r, CallR X f r ∧ r [v] H Q)
    (g0 : ∀ ds h, ds.length ≠ 1 → g ds h = .no) : CallD X R f g := by
  intro ds α h H vs W σ Q rh rd fi
  by_cases hl : ds.length = 1
  · obtain ⟨x, rfl⟩ := List.length_eq_one_iff.mp hl
    obtain ⟨v, rfl, r⟩ := rd.one
    exact g1 x α h H v W σ Q rh r fi
  · rw [g0 ds h hl] at fi
    exact fi.elim
theorem not_one {g : Gc} (e : ∀ h, g [] h = .no) (e2 : ∀ a b c h, g (a :: b :: c) h = .no) : ∀ ds h, ds.length ≠ 1 → g ds h = .no := fun ds h hl => by
  match ds, hl with
  | [], _ => exact e h
  | [_], hl => exact absurd rfl hl
  | a :: b :: c, _ => exact e2 a b c h
theorem cd_list (hK : R.K = X.K) : CallD X R (.type "list") gList := by
  refine one_of (fun x α h H v W σ Q rh r f => ?_) (not_one (fun _ => rfl) fun _ _ _ _ => rfl)
  unfold gList at f
  dsimp only at f
  cases e : seqD x h with
  | none => rw [e] at f; exact f.elim
  | some xs =>
    rw [e] at f
    obtain ⟨a, ws, rfl, q, r2⟩ := seq_of rh r e
    rw [hK] at q
    refine ⟨_, call_list_of, a, ws, rfl, q, fun l hl => ?_⟩
    obtain ⟨a1, b1, c1⟩ := new_lst rh r2 hl
    exact f _ _ _ a1 b1 c1
theorem cd_tuple (hK : R.K = X.K) : CallD X R (.type "tuple") gTuple := by
  refine one_of (fun x α h H v W σ Q rh r f => ?_) (not_one (fun _ => rfl) fun _ _ _ _ => rfl)
  unfold gTuple at f
  dsimp only at f
  cases e : seqD x h with
  | none => rw [e] at f; exact f.elim
  | some xs =>
    rw [e] at f
    obtain ⟨a, ws, rfl, q, r2⟩ := seq_of rh r e
    rcases q with q | q
    · refine ⟨_, call_tuple_of, a, ws, rfl, .inl ⟨hK ▸ q, fun l hl => ?_⟩⟩
      obtain ⟨a1, b1, c1⟩ := new_tup rh r2 hl
      exact f _ _ _ a1 b1 c1
    · exact ⟨_, call_tuple_of, a, ws, rfl, .inr ⟨hK ▸ q, f α H _ .refl rh (.tup q r2)⟩⟩
theorem minL_spec : ∀ (r : List Int) (n : Int), minL (n :: r) ∈ n :: r ∧ ∀ y ∈ n :: r, minL (n :: r) ≤ y
  | [], n => ⟨by simp [minL], by simp [minL]⟩
  | m :: r, n => by
    obtain ⟨h1, h2⟩ := minL_spec r m
    unfold minL
    split
    · rename_i h
      refine ⟨by simp, fun y hy => ?_⟩
      rcases List.mem_cons.mp hy with rfl | hy
      · exact Int.le_refl _
      · exact Int.le_trans h (h2 y hy)
    · rename_i h
      refine ⟨List.mem_cons_of_mem _ h1, fun y hy => ?_⟩
      rcases List.mem_cons.mp hy with rfl | hy
      · omega
      · exact h2 y hy
theorem maxL_spec : ∀ (r : List Int) (n : Int), maxL (n :: r) ∈ n :: r ∧ ∀ y ∈ n :: r, y ≤ maxL (n :: r)
  | [], n => ⟨by simp [maxL], by simp [maxL]⟩
  | m :: r, n => by
    obtain ⟨h1, h2⟩ := maxL_spec r m
    unfold maxL
    split
    · rename_i h
      refine ⟨by simp, fun y hy => ?_⟩
      rcases List.mem_cons.mp hy with rfl | hy
      · exact Int.le_refl _
      · exact Int.le_trans (h2 y hy) h
    · rename_i h
      refine ⟨List.mem_cons_of_mem _ h1, fun y hy => ?_⟩
      rcases List.mem_cons.mp hy with rfl | hy
      · omega
      · exact h2 y hy
/-- min of a tuple -/
theorem cr_minT (hc : X.calm = true) : CallR X (.builtin "min") (fun vs H Q => ∃ (a : Addr) (ns : List Int), vs = [V.ref a] ∧ SqT X.K H a (ns.map V.int) ∧ 0 < ns.length ∧ ∀ m, m ∈ ns → (∀ y, y ∈ ns → m ≤ y) → Q (.int m) H) := by
  intro pins s σ H vs us Q I r h
  obtain ⟨a, ns, rfl, hs, hne, q⟩ := h
  obtain ⟨its, rv, hl, _⟩ := I.tuple hs
  rw [Vals.ref1 r]
  exact TupW.min_tup (I.ok.hd hc) (show s.heap.IsTuple a its.toArray from hl) rv.ints hne fun h' tk m t' hk h1 h2 => ⟨.int _, H, I.kept hk, ⟨_, rfl⟩, q m h1 h2⟩
theorem cr_maxT (hc : X.calm = true) : CallR X (.builtin "max") (fun vs H Q => ∃ (a : Addr) (ns : List Int), vs = [V.ref a] ∧ SqT X.K H a (ns.map V.int) ∧ 0 < ns.length ∧ ∀ m, m ∈ ns → (∀ y, y ∈ ns → y ≤ m) → Q (.int m) H) := by
  intro pins s σ H vs us Q I r h
  obtain ⟨a, ns, rfl, hs, hne, q⟩ := h
  obtain ⟨its, rv, hl, _⟩ := I.tuple hs
  rw [Vals.ref1 r]
  exact TupW.max_tup (I.ok.hd hc) (show s.heap.IsTuple a its.toArray from hl) rv.ints hne fun h' tk m t' hk h1 h2 => ⟨.int _, H, I.kept hk, ⟨_, rfl⟩, q m h1 h2⟩
theorem cr_sumT (hc : X.calm = true) : CallR X (.builtin "sum") (fun vs H Q => ∃ (a : Addr) (ns : List Int), vs = [V.ref a] ∧ SqT X.K H a (ns.map V.int) ∧ Q (.int ns.sum) H) := by
  intro pins s σ H vs us Q I r h
  obtain ⟨a, ns, rfl, hs, q⟩ := h
  obtain ⟨its, rv, hl, _⟩ := I.tuple hs
  rw [Vals.ref1 r]
  exact TupW.sum_tup (I.ok.hd hc) (show s.heap.IsTuple a its.toArray from hl) rv.ints fun h' tk t' hk => ⟨.int _, H, I.kept hk, ⟨_, rfl⟩, q⟩
theorem ints_seq {α : List Addr} {H : Hp} {h : Hd} {x : D} {v : V} {xs : List D} {ns : List Int} (hK : R.K = X.K) (rh : RH R α h H) (r : RelD R α H x v) (e : seqD x h = some xs) (e2 : intsD xs = some ns) : ∃ a, v = .ref a ∧ (SqL X.K H a (ns.map V.int) ∨ SqT X.K H a (ns.map V.int)) := by
  obtain ⟨a, ws, rfl, q, r2⟩ := seq_of rh r e
  rw [intsD_rel e2 r2, hK] at q
  exact ⟨a, rfl, q⟩
theorem cd_mm {nm : String} {one : List Int → Int} {two : Int → Int → Int} {r1 r2 r3 : List V → Hp → VK → Prop} (hK : R.K = X.K) (h1 : CallR X (.builtin nm) r1) (h2 : CallR X (.builtin nm) r2) (h3 : CallR X (.builtin nm) r3)
    (q1 : ∀ a n r H Q, SqL X.K H a ((n :: r).map V.int) → Q (V.int (one (n :: r))) H → r1 [.ref a] H Q) (q2 : ∀ a n r H Q, SqT X.K H a ((n :: r).map V.int) → Q (V.int (one (n :: r))) H → r2 [.ref a] H Q)
    (q3 : ∀ i j H Q, Q (V.int (two i j)) H → r3 [.int i, .int j] H Q) : CallD X R (.builtin nm) (gMinMax one two) := by
  intro ds α h H vs W σ Q rh rd f
  have go : ∀ x, ds = [x] → FinE R W α H σ (match seqD x h with
    | some xs => (match intsD xs with
      | some (n :: r) => .ok (.int (one (n :: r))) h
      | _ => .no)
    | none => .no) Q → ∃ r, CallR X (.builtin nm) r ∧ r vs H Q := fun x e f2 => by
    clear f
    subst e
    obtain ⟨v, rfl, r⟩ := rd.one
    cases e : seqD x h with
    | none => rw [e] at f2; exact f2.elim
    | some xs =>
      rw [e] at f2
      dsimp only at f2
      cases e2 : intsD xs with
      | none => rw [e2] at f2; exact f2.elim
      | some ns =>
        rw [e2] at f2
        cases ns with
        | nil => exact (show False from f2).elim
        | cons n t =>
          obtain ⟨a, rfl, q⟩ := ints_seq hK rh r e e2
          rcases q with q | q
          · exact ⟨_, h1, q1 a n t H Q q (f2 α H _ .refl rh .int)⟩
          · exact ⟨_, h2, q2 a n t H Q q (f2 α H _ .refl rh .int)⟩
  cases ds with
  | nil => exact (show False from f).elim
  | cons x t =>
    cases t with
    | nil => cases x <;> exact go _ rfl f
    | cons y t =>
      cases t with
      | cons _ _ => cases x <;> cases y <;> exact (show False from f).elim
      | nil =>
        cases x with
        | int i =>
          cases y with
          | int j =>
            obtain ⟨v, v', rfl, r1, r2⟩ := rd.two
            rw [r1.int_inv, r2.int_inv]
            exact ⟨_, h3, q3 i j H Q (f α H _ .refl rh .int)⟩
          | _ => exact (show False from f).elim
        | _ => cases y <;> exact (show False from f).elim
theorem le_anti {a b : Int} (h : a ≤ b) (h2 : b ≤ a) : a = b := Int.le_antisymm h h2
theorem cd_min (hK : R.K = X.K) (hc : X.calm = true) : CallD X R (.builtin "min") gMin := by
  refine cd_mm hK (cr_min hc) (cr_minT hc) (call_min2 hc) (fun a n r H Q q h => ?_) (fun a n r H Q q h => ?_) fun i j H Q h => ⟨i, j, rfl, h⟩
  · refine ⟨a, n :: r, rfl, q, by simp, fun m hm h2 => ?_⟩
    obtain ⟨s1, s2⟩ := minL_spec r n
    rw [le_anti (h2 _ s1) (s2 _ hm)]
    exact h
  · refine ⟨a, n :: r, rfl, q, by simp, fun m hm h2 => ?_⟩
    obtain ⟨s1, s2⟩ := minL_spec r n
    rw [le_anti (h2 _ s1) (s2 _ hm)]
    exact h
theorem cd_max (hK : R.K = X.K) (hc : X.calm = true) : CallD X R (.builtin "max") gMax := by
  refine cd_mm hK (cr_max hc) (cr_maxT hc) (call_max2 hc) (fun a n r H Q q h => ?_) (fun a n r H Q q h => ?_) fun i j H Q h => ⟨i, j, rfl, h⟩
  · refine ⟨a, n :: r, rfl, q, by simp, fun m hm h2 => ?_⟩
    obtain ⟨s1, s2⟩ := maxL_spec r n
    rw [le_anti (s2 _ hm) (h2 _ s1)]
    exact h
  · refine ⟨a, n :: r, rfl, q, by simp, fun m hm h2 => ?_⟩
    obtain ⟨s1, s2⟩ := maxL_spec r n
    rw [le_anti (s2 _ hm) (h2 _ s1)]
    exact h
theorem cd_sum (hK : R.K = X.K) (hc : X.calm = true) : CallD X R (.builtin "sum") gSum := by
  refine one_of (fun x α h H v W σ Q rh r f => ?_) (not_one (fun _ => rfl) fun _ _ _ _ => rfl)
  unfold gSum at f
  dsimp only at f
  cases e : seqD x h with
  | none => rw [e] at f; exact f.elim
  | some xs =>
    rw [e] at f
    dsimp only at f
    cases e2 : intsD xs with
    | none => rw [e2] at f; exact f.elim
    | some ns =>
      rw [e2] at f
      obtain ⟨a, rfl, q⟩ := ints_seq hK rh r e e2
      rcases q with q | q
      · exact ⟨_, cr_sum hc, a, ns, rfl, q, f α H _ .refl rh .int⟩
      · exact ⟨_, cr_sumT hc, a, ns, rfl, q, f α H _ .refl rh .int⟩
theorem cd_abs : CallD X R (.builtin "abs") gAbs := by
  refine one_of (fun x α h H v W σ Q rh r f => ?_) (not_one (fun _ => rfl) fun _ _ _ _ => by unfold gAbs; split <;> simp_all)
  cases x with
  | int i => rw [r.int_inv]; exact ⟨_, call_abs, i, rfl, f α H _ .refl rh .int⟩
  | _ => exact (show False from f).elim
theorem cd_all (hK : R.K = X.K) (hc : X.calm = true) : CallD X R (.builtin "all") gAll := by
  refine one_of (fun x α h H v W σ Q rh r f => ?_) (not_one (fun _ => rfl) fun _ _ _ _ => rfl)
  unfold gAll at f
  dsimp only at f
  cases e : lstD x h with
  | none => rw [e] at f; exact f.elim
  | some xs =>
    rw [e] at f
    dsimp only at f
    cases e2 : boolsD xs with
    | none => rw [e2] at f; exact f.elim
    | some ns =>
      rw [e2] at f
      obtain ⟨a, ws, rfl, q, r2⟩ := lstD_of rh r e
      rw [boolsD_rel e2 r2, hK] at q
      exact ⟨_, cr_all hc, a, ns, rfl, q, f α H _ .refl rh .bl⟩
theorem cd_any (hK : R.K = X.K) (hc : X.calm = true) : CallD X R (.builtin "any") gAny := by
  refine one_of (fun x α h H v W σ Q rh r f => ?_) (not_one (fun _ => rfl) fun _ _ _ _ => rfl)
  unfold gAny at f
  dsimp only at f
  cases e : lstD x h with
  | none => rw [e] at f; exact f.elim
  | some xs =>
    rw [e] at f
    dsimp only at f
    cases e2 : boolsD xs with
    | none => rw [e2] at f; exact f.elim
    | some ns =>
      rw [e2] at f
      obtain ⟨a, ws, rfl, q, r2⟩ := lstD_of rh r e
      rw [boolsD_rel e2 r2, hK] at q
      exact ⟨_, cr_any hc, a, ns, rfl, q, f α H _ .refl rh .bl⟩
theorem insI_perm (n : Int) : ∀ l : List Int, (insI n l).Perm (n :: l)
  | [] => .refl _
  | m :: r => by
    unfold insI
    split
    · exact .refl _
    · exact ((insI_perm n r).cons m).trans (.swap n m r)
theorem sortI_perm : ∀ l : List Int, (sortI l).Perm l
  | [] => .refl _
  | n :: r => (insI_perm n (sortI r)).trans ((sortI_perm r).cons n)
theorem insI_sorted (n : Int) : ∀ l : List Int, l.Pairwise (· ≤ ·) → (insI n l).Pairwise (· ≤ ·)
  | [], _ => by simp [insI]
  | m :: r, h => by
    rw [List.pairwise_cons] at h
    unfold insI
    split
    · rename_i hnm
      rw [List.pairwise_cons]
      refine ⟨fun y hy => ?_, List.pairwise_cons.mpr h⟩
      rcases List.mem_cons.mp hy with rfl | hy
      · exact hnm
      · exact Int.le_trans hnm (h.1 y hy)
    · rename_i hnm
      rw [List.pairwise_cons]
      refine ⟨fun y hy => ?_, insI_sorted n r h.2⟩
      have := (insI_perm n r).mem_iff.mp hy
      rcases List.mem_cons.mp this with rfl | hy
      · omega
      · exact h.1 y hy
theorem sortI_sorted : ∀ l : List Int, (sortI l).Pairwise (· ≤ ·)
  | [] => .nil
  | n :: r => insI_sorted n _ (sortI_sorted r)
theorem sorted_uniq : ∀ {l m : List Int}, l.Perm m → l.Pairwise (· ≤ ·) → m.Pairwise (· ≤ ·) → l = m
  | [], m, p, _, _ => (List.nil_perm.mp p).symm
  | a :: l, [], p, _, _ => (List.perm_nil.mp p)
  | a :: l, b :: m, p, h1, h2 => by
    rw [List.pairwise_cons] at h1 h2
    have e : a = b := by
      have ha := p.mem_iff.mp (List.mem_cons_self ..)
      have hb := p.symm.mem_iff.mp (List.mem_cons_self ..)
      rcases List.mem_cons.mp ha with e | ha
      · exact e
      · rcases List.mem_cons.mp hb with e | hb
        · exact e.symm
        · have z1 := h1.1 b hb
          have z2 := h2.1 a ha
          omega
    subst e
    rw [sorted_uniq ((List.perm_cons a).mp p) h1.2 h2.2]
theorem rel_ints {α : List Addr} {H : Hp} : ∀ ns : List Int, RelDs R α H (ns.map .int) (ns.map .int)
  | [] => .nil
  | _ :: r => .cons .int (rel_ints r)
theorem cd_sorted (hK : R.K = X.K) : CallD X R (.builtin "sorted") gSorted := by
  refine one_of (fun x α h H v W σ Q rh r f => ?_) (not_one (fun _ => rfl) fun _ _ _ _ => rfl)
  unfold gSorted at f
  dsimp only at f
  cases e : lstD x h with
  | none => rw [e] at f; exact f.elim
  | some xs =>
    rw [e] at f
    dsimp only at f
    cases e2 : intsD xs with
    | none => rw [e2] at f; exact f.elim
    | some ns =>
      rw [e2] at f
      obtain ⟨a, ws, rfl, q, r2⟩ := lstD_of rh r e
      rw [intsD_rel e2 r2, hK] at q
      refine ⟨_, cr_sortedI, a, ns, rfl, q, fun ns' p hp hs hn => ?_⟩
      have e3 : ns' = sortI ns := sorted_uniq (hp.trans (sortI_perm ns).symm) hs (sortI_sorted ns)
      subst e3
      obtain ⟨a1, b1, c1⟩ := new_lst rh (rel_ints (R := R) (α := α) (H := H) (sortI ns)) hn
      exact f _ _ _ a1 b1 c1
theorem cd_int : CallD X R (.type "int") gInt := by
  refine one_of (fun x α h H v W σ Q rh r f => ?_) (not_one (fun _ => rfl) fun _ _ _ _ => by unfold gInt; split <;> simp_all)
  cases x with
  | int i => rw [r.int_inv]; exact ⟨_, call_int1, .inl ⟨i, rfl, f α H _ .refl rh .int⟩⟩
  | bl i => rw [r.bl_inv]; exact ⟨_, call_int1, .inr ⟨i, rfl, f α H _ .refl rh .int⟩⟩
  | _ => exact (show False from f).elim
/-- repr of data -/
def rRepr (K : PySem.W.Frag) : List V → Hp → VK → Prop := fun vs H Q => ∃ v d, vs = [v] ∧ Dp K H v d ∧ repOk d = true ∧ Q (.str d.shown) H
theorem cr_repr (hgd : X.A.guards = some []) (hu : X.A.units + 64 < cLine) : CallR X (.builtin "repr") (rRepr X.K) := by
  intro pins s σ H vs us Q I r h
  obtain ⟨v, d, rfl, dp, ok, q⟩ := h
  obtain ⟨u, rfl, ru⟩ := r.one
  unfold repOk at ok
  rw [Bool.and_eq_true, Bool.and_eq_true, Bool.and_eq_true, decide_eq_true_eq, decide_eq_true_eq, Bool.not_eq_true'] at ok
  obtain ⟨⟨⟨k1, k2⟩, k3⟩, k4⟩ := ok
  have hz : d.shown.length ≤ sizeLine := by rw [lineEq]; exact k4
  have go : ∀ a, u = .ref a → wpAny (model X.prog X.w) X.A (call (.builtin "repr") [u]) (EP X pins σ Q) X.xe s := fun a e => by
    subst e
    obtain ⟨as, rd⟩ := Dp.reads I d v _ dp ru
    exact repr_of_reads' rd k1 (fun hx => by rw [k2] at hx; exact absurd hx Bool.false_ne_true) hgd (by omega) (fun _ _ e => e) (fun h' u tk hk => ⟨.str d.shown, H, I.kept hk, ⟨_, rfl⟩, q⟩) hz
  cases dp with
  | non => cases ru; exact P.repr_of_none ⟨.str _, H, I.tok _, ⟨_, by first | rfl | (simp only [PyData.shown]; rfl)⟩, q⟩
  | bl b => cases ru; exact P.repr_of_bool ⟨.str _, H, I.tok _, ⟨_, by first | rfl | (simp only [PyData.shown]; rfl)⟩, q⟩
  | int i =>
    obtain ⟨t, rfl⟩ := ru
    have : i.natAbs.log2 < 1920 := by simpa [PyData.showable] using k1
    exact P.repr_of_int this ⟨.str _, H, I.tok _, ⟨_, by first | rfl | (simp only [PyData.shown]; rfl)⟩, q⟩
  | str z =>
    obtain ⟨t, rfl⟩ := ru
    exact P.repr_of_str ⟨.str _, H, I.tok _, ⟨_, by first | rfl | (simp only [PyData.shown]; rfl)⟩, q⟩ (by simpa only [PyData.shown] using hz)
  | lst a b => exact go _ ru
  | tup a b => exact go _ ru
theorem cd_repr (hK : R.K = X.K) (hgd : X.A.guards = some []) (hu : X.A.units + 64 < cLine) : CallD X R (.builtin "repr") gRepr := by
  refine one_of (fun x α h H v W σ Q rh r f => ?_) (not_one (fun _ => rfl) fun _ _ _ _ => rfl)
  unfold gRepr at f
  dsimp only at f
  cases e : toP maxP h x with
  | none => rw [e] at f; exact f.elim
  | some d =>
    rw [e] at f
    dsimp only at f
    split at f
    · rename_i ok
      exact ⟨_, cr_repr hgd hu, v, d, rfl, hK ▸ toP_dp rh e r, ok, f α H _ .refl rh .str⟩
    · exact f.elim
theorem cd_isi (hK : R.K = X.K) : CallD X R (.builtin "isinstance") gIsi := by
  intro ds α h H vs W σ Q rh rd f
  cases ds with
  | nil => exact (show False from f).elim
  | cons x t =>
    cases t with
    | nil => cases x <;> exact (show False from f).elim
    | cons y t =>
      cases t with
      | cons _ _ => cases y <;> exact (show False from f).elim
      | nil =>
        cases y with
        | ty T =>
          unfold gIsi at f
          dsimp only at f
          cases e : tyName x h with
          | none => rw [e] at f; exact f.elim
          | some t =>
            rw [e] at f
            dsimp only at f
            split at f
            · rename_i hT
              obtain ⟨v, v', rfl, r1, r2⟩ := rd.two
              rw [r2.ty_inv]
              obtain ⟨m, tx⟩ := ty_of hK rh r1 e
              exact ⟨_, call_isi, v, .ty T, .type t, .type T, _, rfl, .ty T, tx, kit_tab X.K t m T (by simpa using hT), f α H _ .refl rh .bl⟩
            · exact f.elim
        | _ => exact (show False from f).elim
end
end Mi

set_option Elab.async false
set_option linter.all false
set_option maxRecDepth 100000
set_option maxHeartbeats 1000000
namespace Mi
open PySem PySem.Spec PyProof.Rows L2
/-! ### a chain of two comparisons -/
section
variable {Tt : List (Addr × Str)} {X : Cx} {R : Rx} {W : WX} {pos : Pos} {a b c : Expr} {fa fb fc : Fe} {op op' : CmpOp} {g g' : D → D → Hd → Res D}
def rOU (X : Cx) (f : Value → Value → Sem Value) : R2 := fun x y H Q => ∃ r, OpR X f r ∧ r x y H Q
theorem opU {f : Value → Value → Sem Value} : OpR X f (rOU X f) := fun pins s σ H x y v u Q I rx ry ⟨r, h1, h2⟩ => h1 pins s σ H x y v u Q I rx ry h2
theorem chain_in (ho : OpD X R (compareOp op) g) (ho' : OpD X R (compareOp op') g') {σ : St} {H : Hp} {Q : VK} (h : tE R W (eChain g g' fa fb fc) σ H Q) : tChain (rOU X (compareOp op)) (rOU X (compareOp op')) (tE R W fa) (tE R W fb) (tE R W fc) σ H Q := by
  obtain ⟨α, env, hp, re, rh, fi⟩ := h
  refine ⟨α, env, hp, re, rh, (Fin.split fi).imp fun x H1 hq => ?_⟩
  obtain ⟨dx, α1, h1, _, x1, rh1, r1, f1⟩ := hq
  refine ⟨α1, env, h1, re.ext x1, rh1, (Fin.split f1).imp fun y H2 hq => ?_⟩
  obtain ⟨dy, α2, h2, _, x2, rh2, r2, f2⟩ := hq
  have rx := RelD.ext x2 _ _ r1
  refine ho _ _ _ _ _ _ _ _ _ _ rh2 rx r2 ((Fin.split f2).imp fun z H3 hq => ?_)
  obtain ⟨dz, α3, h3, _, x3, rh3, r3, f3⟩ := hq
  cases dz with
  | bl k =>
    refine ⟨k, r3.bl_inv, ?_⟩
    cases k with
    | true =>
      rw [if_pos rfl]
      refine ⟨α3, env, h3, ((re.ext x1).ext x2).ext x3, rh3, (Fin.split f3).imp fun w H4 hq => ?_⟩
      obtain ⟨dw, α4, h4, _, x4, rh4, r4, f4⟩ := hq
      exact ho' _ _ _ _ _ _ _ _ _ _ rh4 (RelD.ext (x3.trans x4) _ _ r2) r4 f4
    | false =>
      rw [if_neg (by decide)]
      exact f3 α3 H3 _ .refl rh3 .bl
  | _ => exact (show False from f3).elim
theorem de_chain (ho : OpD X R (compareOp op) g) (ho' : OpD X R (compareOp op') g') (ha : DE X R W a fa) (hb : DE X R W b fb) (hc : DE X R W c fc) (hm : lastMarks [op, op'] [b, c] = false := by with_unfolding_all rfl) :
    DE X R W (.Compare a [op, op'] [b, c] pos) (eChain g g' fa fb fc) :=
  ⟨fun pins s σ H Q I h => (pe_chain (pos := pos) opU opU ha hb hc hm).run pins s σ H Q I (chain_in ho ho' h)⟩
theorem dt_chain (ho : OpD X R (compareOp op) g) (ho' : OpD X R (compareOp op') g') (ha : DE X R W a fa) (hb : DE X R W b fb) (hc : DE X R W c fc) (hm : lastMarks [op, op'] [b, c] = false := by with_unfolding_all rfl) :
    DT X R W (.Compare a [op, op'] [b, c] pos) (tOf (eChain g g' fa fb fc)) := by
  refine ⟨fun pins s σ H Q I h => (pt_chain (pos := pos) opU opU ha hb hc hm).run pins s σ H Q I ?_⟩
  obtain ⟨α, env, hp, re, rh, fi⟩ := h
  refine chain_in (W := W) ho ho' ⟨α, env, hp, re, rh, (Fin.split (g := toB) fi).imp fun v H1 hq => ?_⟩
  obtain ⟨d, α1, h1, _, x1, rh1, rd1, f1⟩ := hq
  cases d with
  | bl k => exact ⟨k, rd1.bl_inv, f1 α1 H1 k .refl rh1 rfl⟩
  | _ => exact (show False from f1).elim
end
/-! ### methods of built-in types -/
abbrev Gm := D → List D → Hd → Res D
@[simp] def recvOk (T : String) (x : D) (h : Hd) : Bool := match x with
  | .str _ => T == "str"
  | .ref n => (match h[n]? with
    | some (.lst _) => T == "list"
    | some (.fro _) => T == "list"
    | _ => false)
  | _ => false
@[simp] def eMeth (T : String) (g : Gm) (fo : Fe) (fa : Fa) : Fe := fun env h => (fo env h).bind fun x h1 => if recvOk T x h1 = true then (fa env h1).bind fun ds h2 => g x ds h2 else .no
def MtD (X : Cx) (R : Rx) (id : String) (g : Gm) : Prop :=
  ∀ (x : D) (ds : List D) (α : List Addr) (h : Hd) (H : Hp) (v : V) (vs : List V) (W : WX) (σ : St) (Q : VK), RH R α h H → RelD R α H x v → RelDs R α H ds vs → FinE R W α H σ (g x ds h) Q → ∃ r, MtM X id r ∧ r v vs H Q
section
variable {Tt : List (Addr × Str)} {X : Cx} {R : Rx} {W : WX} {o e : Expr} {es : List Expr} {fo : Fe} {fa : Fa} {name : Str} {apos cpos : Pos} {T mid : String} {g : Gm}
theorem recv_ty {α : List Addr} {H : Hp} {h : Hd} {x : D} {v : V} (hK : R.K = X.K) (rh : RH R α h H) (r : RelD R α H x v) (ok : recvOk T x h = true) : tyV X.K T v H := by
  cases x with
  | str z => rw [r.str_inv]; exact beq_iff_eq.mp ok
  | ref n =>
    obtain ⟨a, ea, rfl⟩ := r.ref_inv
    unfold recvOk at ok
    dsimp only at ok
    obtain ⟨ob, eo, ro⟩ := rh.at ea
    rw [eo] at ok
    cases ob with
    | lst xs =>
      obtain ⟨vs, q, _⟩ := lst_of rh ea (.inl eo)
      exact .inl ⟨beq_iff_eq.mp ok, vs, hK ▸ q⟩
    | fro xs =>
      obtain ⟨vs, q, _⟩ := lst_of rh ea (.inr eo)
      exact .inl ⟨beq_iff_eq.mp ok, vs, hK ▸ q⟩
    | dic xs => cases ok
  | _ => cases ok
theorem de_meth (hK : R.K = X.K) (pa : PlainAttrs T) (slot : Slot T name mid) (hty : typeOf (.builtin mid) = pure (.type "method_descriptor")) (hm : MtD X R mid g) (ho : DE X R W o fo) (ha : DA X R W (e :: es) fa)
    (hbase : attributeBase o name X.env (eval o X.env) = eval o X.env := by rfl)
    (hfew : ((backTo cpos (starEach (e :: es) X.env)).all (fun x => !x.1) && (backToKw cpos (keywordEach [] X.env)).all (fun x => x.1.isSome)
      && decide ((e :: es).length + ([] : List Keyword).length + (if ([] : List Keyword).isEmpty then 0 else 1) < 30)) = true := by rfl)
    (hline : (apos.endLine == cpos.line) = true := by rfl) (hs : starEach (e :: es) X.env = (false, eval e X.env) :: starEach es X.env := by rfl) (hplain : (backTo cpos (starEach es X.env)).any (·.1) = false := by rfl) :
    DE X R W (.Call (.Attribute o name apos) (e :: es) [] cpos) (eMeth T g fo fa) := by
  have hU : MtR X mid (fun x xs H Q => ∃ r, MtM X mid r ∧ r x xs H Q) := fun pins s σ H x xs v us Q I rx rs ⟨r, h1, h2⟩ => h1 pins s σ H x xs v us Q I rx rs h2
  refine ⟨fun pins s σ H Q I h => (pe_bm (apos := apos) (cpos := cpos) pa slot hty hU ho ha hbase hfew hline hs hplain).run pins s σ H Q I ?_⟩
  obtain ⟨α, env, hp, re, rh, fi⟩ := h
  refine ⟨α, env, hp, re, rh, (Fin.split fi).imp fun v H1 hq => ?_⟩
  obtain ⟨x, α1, h1, _, x1, rh1, r1, f1⟩ := hq
  split at f1
  · rename_i ok
    refine ⟨recv_ty hK rh1 r1 ok, α1, env, h1, re.ext x1, rh1, (Fin.split f1).imp fun vs H2 hq => ?_⟩
    obtain ⟨ds, α2, h2, _, x2, rh2, r2, f2⟩ := hq
    exact hm _ _ _ _ _ _ _ _ _ _ rh2 (RelD.ext x2 _ _ r1) r2 f2
  · exact (show False from f1).elim
theorem de_meth0 (hK : R.K = X.K) (pa : PlainAttrs T) (slot : Slot T name mid) (hty : typeOf (.builtin mid) = pure (.type "method_descriptor")) (hm : MtD X R mid g) (ho : DE X R W o fo)
    (hbase : attributeBase o name X.env (eval o X.env) = eval o X.env := by rfl) (hline : (apos.endLine == cpos.line) = true := by rfl) : DE X R W (.Call (.Attribute o name apos) [] [] cpos) (eMeth T g fo aNil) := by
  have hU : MtR X mid (fun x xs H Q => ∃ r, MtM X mid r ∧ r x xs H Q) := fun pins s σ H x xs v us Q I rx rs ⟨r, h1, h2⟩ => h1 pins s σ H x xs v us Q I rx rs h2
  refine ⟨fun pins s σ H Q I h => (pe_bm0 (apos := apos) (cpos := cpos) pa slot hty hU ho hbase hline).run pins s σ H Q I ?_⟩
  obtain ⟨α, env, hp, re, rh, fi⟩ := h
  refine ⟨α, env, hp, re, rh, (Fin.split fi).imp fun v H1 hq => ?_⟩
  obtain ⟨x, α1, h1, _, x1, rh1, r1, f1⟩ := hq
  split at f1
  · rename_i ok
    exact ⟨recv_ty hK rh1 r1 ok, hm _ _ _ _ _ _ _ _ _ _ rh1 r1 .nil f1⟩
  · exact (show False from f1).elim
@[simp] def mAppend : Gm := fun x ds h => match x, ds with
  | .ref n, [d] => (match h[n]? with
    | some (.lst xs) => if xs.length < 16777216 then .ok .non (h.set n (.lst (xs ++ [d]))) else .no
    | _ => .no)
  | _, _ => .no
@[simp] def mExtend : Gm := fun x ds h => match x, ds with
  | .ref n, [.ref m] => (match h[n]?, h[m]? with
    | some (.lst xs), some (.lst ys) => if xs.length + ys.length ≤ 16777216 then .ok .non (h.set n (.lst (xs ++ ys))) else .no
    | _, _ => .no)
  | _, _ => .no
noncomputable def mPop : Gm := fun x ds h => match x, ds with
  | .ref n, [] => (match h[n]? with
    | some (.lst xs) => (match xs[xs.length - 1]? with
      | some d => .ok d (h.set n (.lst xs.dropLast))
      | none => .no)
    | _ => .no)
  | .ref n, [.int i] => (match h[n]? with
    | some (.lst xs) => if rngOk i = true then (match ixN xs.length i with
      | some k => (match xs[k]? with
        | some d => .ok d (h.set n (.lst (xs.eraseIdx k)))
        | none => .no)
      | none => .no) else .no
    | _ => .no)
  | _, _ => .no
theorem write_lst {α : List Addr} {H : Hp} {h : Hd} {n : Nat} {a : Addr} {vs ws : List V} {ys : List D} (rh : RH R α h H) (ea : α[n]? = some a) (q : H a = some (.lst vs)) (r : RelDs R α H ys ws) :
    Ext α H α (upd H a (.lst ws)) ∧ RH R α (h.set n (.lst ys)) (upd H a (.lst ws)) := by
  have x := Ext.write (α := α) (o := .lst ws) q trivial
  exact ⟨x, rh.write ea q trivial ⟨ws, upd_same, RelDs.ext x _ _ r⟩⟩
theorem md_append : MtD X R "list.append" mAppend := by
  intro x ds α h H v vs W σ Q rh rx rd f
  cases x with
  | ref n =>
    obtain ⟨a, ea, rfl⟩ := rx.ref_inv
    match ds, rd, f with
    | [], _, f => exact (show False from f).elim
    | _ :: _ :: _, _, f => exact (show False from f).elim
    | [d], rd, f =>
      unfold mAppend at f
      dsimp only at f
      obtain ⟨o, eo, ro⟩ := rh.at ea
      rw [eo] at f
      cases o with
      | lst xs =>
        obtain ⟨ws, q, r⟩ := ro
        obtain ⟨u, rfl, ru⟩ := rd.one
        dsimp only at f
        split at f
        · rename_i hl
          obtain ⟨x1, rh1⟩ := write_lst rh ea q (r.append (.cons ru .nil))
          exact ⟨_, mt_append, a, ws, u, rfl, rfl, q, by rw [← r.length, lineEq]; exact hl, f α _ _ x1 rh1 .non⟩
        · exact f.elim
      | _ => exact (show False from f).elim
  | _ => exact (show False from f).elim
theorem md_extend : MtD X R "list.extend" mExtend := by
  intro x ds α h H v vs W σ Q rh rx rd f
  cases x with
  | ref n =>
    obtain ⟨a, ea, rfl⟩ := rx.ref_inv
    match ds, rd, f with
    | [], _, f => exact (show False from f).elim
    | d :: _ :: _, _, f => cases d <;> exact (show False from f).elim
    | [d], rd, f =>
      cases d with
      | ref m =>
        unfold mExtend at f
        dsimp only at f
        obtain ⟨u, rfl, ru⟩ := rd.one
        obtain ⟨b, eb, rfl⟩ := ru.ref_inv
        obtain ⟨o, eo, ro⟩ := rh.at ea
        obtain ⟨o2, eo2, ro2⟩ := rh.at eb
        rw [eo, eo2] at f
        cases o with
        | lst xs =>
          cases o2 with
          | lst ys =>
            obtain ⟨ws, q, r⟩ := ro
            obtain ⟨zs, q2, r2⟩ := ro2
            dsimp only at f
            split at f
            · rename_i hl
              obtain ⟨x1, rh1⟩ := write_lst rh ea q (r.append r2)
              exact ⟨_, mt_extend, a, b, ws, zs, rfl, rfl, q, q2, by rw [← r.length, ← r2.length, lineEq]; exact hl, f α _ _ x1 rh1 .non⟩
            · exact f.elim
          | _ => exact (show False from f).elim
        | _ => exact (show False from f).elim
      | _ => exact (show False from f).elim
  | _ => exact (show False from f).elim
theorem RelDs.dropLast {α : List Addr} {H : Hp} : ∀ {xs : List D} {vs : List V}, RelDs R α H xs vs → RelDs R α H xs.dropLast vs.dropLast
  | [], _, r => by rw [r.nil_inv]; exact .nil
  | [x], _, r => by obtain ⟨v, rfl, _⟩ := r.one; exact .nil
  | x :: y :: t, _, r => by
    obtain ⟨v, r', rfl, h1, h2⟩ := r.cons_inv
    obtain ⟨v2, r2, rfl, h3, h4⟩ := h2.cons_inv
    exact .cons h1 (RelDs.dropLast (.cons h3 h4))
theorem md_pop : MtD X R "list.pop" mPop := by
  intro x ds α h H v vs W σ Q rh rx rd f
  cases x with
  | ref n =>
    obtain ⟨a, ea, rfl⟩ := rx.ref_inv
    match ds, rd, f with
    | d :: _ :: _, _, f => cases d <;> exact (show False from f).elim
    | [], rd, f =>
      unfold mPop at f
      dsimp only at f
      obtain ⟨o, eo, ro⟩ := rh.at ea
      rw [eo] at f
      cases o with
      | lst xs =>
        obtain ⟨ws, q, r⟩ := ro
        rw [rd.nil_inv]
        dsimp only at f
        cases e : xs[xs.length - 1]? with
        | none => rw [e] at f; exact f.elim
        | some d =>
          rw [e] at f
          obtain ⟨u, hu, ru⟩ := r.get e
          obtain ⟨x1, rh1⟩ := write_lst rh ea q r.dropLast
          exact ⟨_, mt_pop, a, ws, u, rfl, rfl, q, by rw [← r.length]; exact hu, f α _ _ x1 rh1 (RelD.ext x1 _ _ ru)⟩
      | _ => exact (show False from f).elim
    | [d], rd, f =>
      cases d with
      | int i =>
        unfold mPop at f
        dsimp only at f
        obtain ⟨o, eo, ro⟩ := rh.at ea
        rw [eo] at f
        cases o with
        | lst xs =>
          obtain ⟨ws, q, r⟩ := ro
          obtain ⟨u, rfl, ru⟩ := rd.one
          dsimp only at f
          split at f
          · rename_i hl0
            have hl := rngOk_of hl0
            have e62 : (2 : Int) ^ 62 = 4611686018427387904 := by decide
            rw [e62] at hl
            cases e0 : ixN xs.length i with
            | none => rw [e0] at f; exact f.elim
            | some k =>
              rw [e0] at f
              dsimp only at f
              cases e : xs[k]? with
              | none => rw [e] at f; exact f.elim
              | some d =>
                rw [e] at f
                obtain ⟨u2, hu, ru2⟩ := r.get e
                obtain ⟨x1, rh1⟩ := write_lst rh ea q (r.eraseIdx k)
                have e63 : (2 : Int) ^ 63 = 9223372036854775808 := by decide
                exact ⟨_, mt_popAt, a, ws, i, k, u2, rfl, by rw [ru.int_inv], q, by rw [e63]; omega, by rw [e63]; omega, by rw [← r.length]; exact (ixN_seq e0).1, hu, f α _ _ x1 rh1 (RelD.ext x1 _ _ ru2)⟩
          · exact f.elim
        | _ => exact (show False from f).elim
      | _ => exact (show False from f).elim
  | _ => exact (show False from f).elim
end
/-! ### o[i] = e -/
@[simp] def setAt (o i v : D) (h : Hd) : Option Hd := match o with
  | .ref n => (match h[n]? with
    | some (.lst xs) => (match i with
      | .int k => (match ixN xs.length k with
        | some j => some (h.set n (.lst (xs.set j v)))
        | none => none)
      | _ => none)
    | some (.dic kvs) => (match keyD i with
      | some ky => if kvs.length < 16777216 then some (h.set n (.dic (putD kvs ky v))) else none
      | none => none)
    | _ => none)
  | _ => none
@[simp] def sStore (fe fo fi : Fe) : Fs := sOf fe fun v => sOf fo fun o => sOf fi fun i env h => match setAt o i v h with
  | some h1 => .nx env h1
  | none => .no
section
variable {Tt : List (Addr × Str)} {X : Cx} {R : Rx} {W : WX} {pos p' : Pos} {o i e : Expr} {fo fi fe : Fe}
theorem pset_or (hu : X.A.units + 1 < cLine) : PSet X (fun o i v H Q => rSetL o i v H Q ∨ rSetD o i v H Q) := fun pins s σ H o i v ov iv u Q I ro ri rv h => by
  rcases h with h | h
  · exact set_list pins s σ H o i v ov iv u Q I ro ri rv h
  · exact set_dict hu pins s σ H o i v ov iv u Q I ro ri rv h
theorem ds_store (hu : X.A.units + 1 < cLine) (he : DE X R W e fe) (ho : DE X R W o fo) (hi : DE X R W i fi) (hs : swapsWithSole [.Subscript o i p'] e pos.line X.env = pure false := by rfl) (hw : swappedStores [.Subscript o i p'] e X.env = pure none := by rfl)
    (h1 : (assignEach [.Subscript o i p'] X.env).map (·.2) = [assign (.Subscript o i p') X.env] := by rfl)
    (ha : ∀ v, assign (.Subscript o i p') X.env v = (do
      let ov ← holding [v] (eval o X.env)
      let iv ← holding [v, ov] (eval i X.env)
      standAt p'
      holding [v, ov, iv] (setItem ov iv v)
      release [v, ov, iv] []) := by intro _; rfl) : DS X R W (.Assign [.Subscript o i p'] e pos) (sStore fe fo fi) := by
  refine ⟨fun pins s σ H D I h => (ps_asg he (pg_sub ho hi (pset_or hu) ha) hs hw h1).run pins s σ H D I ?_⟩
  obtain ⟨α, env, hp, re, rh, f⟩ := h
  refine ⟨α, env, hp, re, rh, (finS_of re f).imp fun v H1 hq => ?_⟩
  obtain ⟨dv, α1, h1, _, x1, rh1, rv, f1⟩ := hq
  refine ⟨α1, env, h1, re.ext x1, rh1, (finS_of (re.ext x1) f1).imp fun ov H2 hq => ?_⟩
  obtain ⟨dov, α2, h2, _, x2, rh2, ro, f2⟩ := hq
  refine ⟨α2, env, h2, (re.ext x1).ext x2, rh2, (finS_of ((re.ext x1).ext x2) f2).imp fun iv H3 hq => ?_⟩
  obtain ⟨div, α3, h3, _, x3, rh3, ri, f3⟩ := hq
  have rv := RelD.ext (x2.trans x3) _ _ rv
  have ro := RelD.ext x3 _ _ ro
  have re3 := ((re.ext x1).ext x2).ext x3
  have f3 : FinS R W α3 H3 D (match setAt dov div dv h3 with
    | some h1 => .nx env h1
    | none => .no) := f3
  cases dov with
  | ref n =>
    obtain ⟨a, ea, rfl⟩ := ro.ref_inv
    unfold setAt at f3
    dsimp only at f3
    obtain ⟨ob, eo, rob⟩ := rh3.at ea
    rw [eo] at f3
    cases ob with
    | lst xs =>
      obtain ⟨ws, q, r⟩ := rob
      cases div with
      | int k =>
        dsimp only at f3
        cases e0 : ixN xs.length k with
        | none => rw [e0] at f3; exact f3.elim
        | some j =>
          rw [e0] at f3
          obtain ⟨x4, rh4⟩ := write_lst rh3 ea q (r.set j rv)
          exact .inl ⟨a, ws, k, j, rfl, ri.int_inv, q, by rw [← r.length]; exact e0, f3 _ _ _ x4 rh4 (re3.ext x4)⟩
      | _ => exact (show False from f3).elim
    | fro xs => exact (show False from f3).elim
    | dic kvs =>
      obtain ⟨ws, q, r⟩ := rob
      dsimp only at f3
      cases ek : keyD div with
      | none => rw [ek] at f3; exact f3.elim
      | some ky =>
        rw [ek] at f3
        dsimp only at f3
        by_cases hl : kvs.length < 16777216
        · rw [if_pos hl] at f3
          have x4 : Ext α3 H3 α3 (upd H3 a (.dK (putK ws ky v))) := Ext.write q trivial
          have rh4 : RH R α3 (h3.set n (.dic (putD kvs ky dv))) (upd H3 a (.dK (putK ws ky v))) := rh3.write ea q trivial ⟨_, upd_same, RelKs.ext x4 _ _ (r.put rv)⟩
          exact .inr ⟨a, _, rfl, .inl ⟨ws, ky, q, keyD_rel ek ri, by rw [← r.length, lineEq]; exact hl, rfl⟩, f3 _ _ _ x4 rh4 (re3.ext x4)⟩
        · rw [if_neg hl] at f3
          exact f3.elim
  | _ => exact (show False from f3).elim
/-! ### a, b = x, y between plain local names -/
@[simp] def sPar2 (i j : Nat) (fa : Fa) : Fs := fun env h => match fa env h with
  | .ok [x, y] h1 => if (decide (i < env.length) && decide (j < env.length)) = true then .nx ((env.set i (some x)).set j (some y)) h1 else .no
  | .ex e h1 => .ex e env h1
  | _ => .no
@[simp] def sPar3 (i j l : Nat) (fa : Fa) : Fs := fun env h => match fa env h with
  | .ok [x, y, z] h1 => if (decide (i < env.length) && decide (j < env.length) && decide (l < env.length)) = true then .nx (((env.set i (some x)).set j (some y)).set l (some z)) h1 else .no
  | .ex e h1 => .ex e env h1
  | _ => .no
theorem ds_par2 {a b : Expr} (i j : Nat) {x y : Str} {fa : Fa} {px py pt : Pos} {kt k2 pt2} (hc : X.calm = true) (hN : X.N.Nodup) (ha : DA X R W [a, b] fa) (hi : X.N[i]? = some x := by rfl) (hj : X.N[j]? = some y := by rfl) (hij : i ≠ j := by decide)
    (hx : X.env.scope.names.lookup x = some .local := by rfl) (hy : X.env.scope.names.lookup y = some .local := by rfl)
    (hw : swappedStores [.Tuple [.Name x px, .Name y py] kt pt] (.Tuple [a, b] k2 pt2) X.env = pure (some [x, y]) := by rfl)
    (hs : swapsWithSole [.Tuple [.Name x px, .Name y py] kt pt] (.Tuple [a, b] k2 pt2) pos.line X.env = pure false := by rfl) :
    DS X R W (.Assign [.Tuple [.Name x px, .Name y py] kt pt] (.Tuple [a, b] k2 pt2) pos) (sPar2 i j fa) := by
  refine ⟨fun pins s σ H D I h => (ps_par (pos := pos) hc hN hi hj hij hx hy ha hw hs).run pins s σ H D I ?_⟩
  obtain ⟨α, env, hp, re, rh, f⟩ := h
  refine ⟨α, env, hp, re, rh, ?_⟩
  unfold sPar2 at f
  cases er : fa env hp with
  | no => rw [er] at f; exact f
  | ex e h1 => rw [er] at f; exact fun α1 H1 cls dd x1 rh1 r1 => f α1 H1 σ cls dd x1 rh1 (re.ext x1) r1
  | ok ds h1 =>
    rw [er] at f
    match ds, f with
    | [], f => exact (show False from f).elim
    | [_], f => exact (show False from f).elim
    | _ :: _ :: _ :: _, f => exact (show False from f).elim
    | [d1, d2], f =>
      dsimp only at f
      by_cases hl : (decide (i < env.length) && decide (j < env.length)) = true
      · rw [if_pos hl] at f
        intro α1 H1 vs x1 rh1 r1
        obtain ⟨v1, v2, rfl, q1, q2⟩ := r1.two
        exact ⟨v1, v2, rfl, f α1 H1 _ x1 rh1 (((re.ext x1).set q1).set q2)⟩
      · rw [if_neg hl] at f; exact f.elim
theorem RelDs.three {α : List Addr} {H : Hp} {d d' d'' : D} {vs : List V} (h : RelDs R α H [d, d', d''] vs) : ∃ v v' v'', vs = [v, v', v''] ∧ RelD R α H d v ∧ RelD R α H d' v' ∧ RelD R α H d'' v'' := by
  obtain ⟨v, r, e, h1, t⟩ := h.cons_inv
  obtain ⟨v', v'', e', h2, h3⟩ := t.two
  rw [e'] at e
  exact ⟨v, v', v'', e, h1, h2, h3⟩
theorem ds_par3 {a b c : Expr} (i j l : Nat) {x y z : Str} {fa : Fa} {px py pz pt : Pos} {kt k2 pt2} (hc : X.calm = true) (hN : X.N.Nodup) (ha : DA X R W [a, b, c] fa) (hi : X.N[i]? = some x := by rfl) (hj : X.N[j]? = some y := by rfl) (hl : X.N[l]? = some z := by rfl) (hij : i ≠ j := by decide) (hil : i ≠ l := by decide) (hjl : j ≠ l := by decide)
    (hx : X.env.scope.names.lookup x = some .local := by rfl) (hy : X.env.scope.names.lookup y = some .local := by rfl) (hz : X.env.scope.names.lookup z = some .local := by rfl)
    (hw : swappedStores [.Tuple [.Name x px, .Name y py, .Name z pz] kt pt] (.Tuple [a, b, c] k2 pt2) X.env = pure (some [x, y, z]) := by rfl)
    (hs : swapsWithSole [.Tuple [.Name x px, .Name y py, .Name z pz] kt pt] (.Tuple [a, b, c] k2 pt2) pos.line X.env = pure false := by rfl) :
    DS X R W (.Assign [.Tuple [.Name x px, .Name y py, .Name z pz] kt pt] (.Tuple [a, b, c] k2 pt2) pos) (sPar3 i j l fa) := by
  refine ⟨fun pins s σ H D I h => (ps_par3 (pos := pos) hc hN hi hj hl hij hil hjl hx hy hz ha hw hs).run pins s σ H D I ?_⟩
  obtain ⟨α, env, hp, re, rh, f⟩ := h
  refine ⟨α, env, hp, re, rh, ?_⟩
  unfold sPar3 at f
  cases er : fa env hp with
  | no => rw [er] at f; exact f
  | ex e h1 => rw [er] at f; exact fun α1 H1 cls dd x1 rh1 r1 => f α1 H1 σ cls dd x1 rh1 (re.ext x1) r1
  | ok ds h1 =>
    rw [er] at f
    match ds, f with
    | [], f => exact (show False from f).elim
    | [_], f => exact (show False from f).elim
    | [_, _], f => exact (show False from f).elim
    | _ :: _ :: _ :: _ :: _, f => exact (show False from f).elim
    | [d1, d2, d3], f =>
      dsimp only at f
      by_cases hl : (decide (i < env.length) && decide (j < env.length) && decide (l < env.length)) = true
      · rw [if_pos hl] at f
        intro α1 H1 vs x1 rh1 r1
        obtain ⟨v1, v2, v3, rfl, q1, q2, q3⟩ := r1.three
        exact ⟨v1, v2, v3, rfl, f α1 H1 _ x1 rh1 ((((re.ext x1).set q1).set q2).set q3)⟩
      · rw [if_neg hl] at f; exact f.elim
end
/-! ### {k: v, ..} -/
def pairsD : List (Fe × Fe) → En → Hd → Res (List (Key × D))
  | [], _, h => .ok [] h
  | (k, v) :: r, env, h => (k env h).bind fun x h1 => (v env h1).bind fun y h2 => (pairsD r env h2).bind fun ps h3 => match keyD x with
    | some ky => .ok ((ky, y) :: ps) h3
    | none => .no
def mergeD (kvs more : List (Key × D)) : List (Key × D) := more.foldl (fun acc kv => putD acc kv.1 kv.2) kvs
def emptyDic : Option Ob → Bool
  | some (.dic []) => true
  | _ => false
def eDict (prs : List (Fe × Fe)) : Fe := fun env h => (pairsD prs env (h ++ [.dic []])).bind fun ps h1 => if (emptyDic h1[h.length]? && decide (ps.length ≤ 15)) = true then .ok (.ref h.length) (h1.set h.length (.dic (mergeD [] ps))) else .no
@[simp] def eDict0 : Fe := fun _ h => .ok (.ref h.length) (h ++ [.dic []])
section
variable {Tt : List (Addr × Str)} {X : Cx} {R : Rx} {W : WX} {pos : Pos}
def trsD (R : Rx) (W : WX) (prs : List (Fe × Fe)) : List (TE × TE) := prs.map fun p => (tE R W p.1, tE R W p.2)
abbrev DPs (X : Cx) (R : Rx) (W : WX) (pos : Pos) (keys : List (Option Expr)) (values : List Expr) (prs : List (Fe × Fe)) : Prop := PPs X pos keys values (trsD R W prs)
theorem dps_nil : DPs X R W pos [] [] [] := pps_nil
theorem dps_cons {k v : Expr} {ks : List (Option Expr)} {vs : List Expr} {fk fv : Fe} {prs : List (Fe × Fe)} (hk : DE X R W k fk) (hv : DE X R W v fv) (hr : DPs X R W pos ks vs prs) : DPs X R W pos (some k :: ks) (v :: vs) ((fk, fv) :: prs) := pps_cons hk hv hr
def RelPs (R : Rx) (α : List Addr) (H : Hp) (ps : List (Key × D)) (vs : List (V × V)) : Prop := ∃ kvs, vs = kvs.map (fun kv => (kV kv.1, kv.2)) ∧ RelKs R α H ps kvs
theorem pairs_in : ∀ {prs : List (Fe × Fe)} {α : List Addr} {env : En} {h : Hd} {σ : St} {H : Hp} {Q : List (V × V) → Hp → Prop}, RelEnv R α H env σ → RH R α h H → Fin (RelPs R) R W α H σ (pairsD prs env h) Q → tPairs (trsD R W prs) σ H Q
  | [], α, env, h, σ, H, Q, re, rh, f => f α H [] .refl rh ⟨[], rfl, .nil⟩
  | (k, v) :: r, α, env, h, σ, H, Q, re, rh, f => by
    refine ⟨α, env, h, re, rh, (Fin.split f).imp fun x H1 hq => ?_⟩
    obtain ⟨dx, α1, h1, _, x1, rh1, r1, f1⟩ := hq
    refine ⟨α1, env, h1, re.ext x1, rh1, (Fin.split f1).imp fun y H2 hq => ?_⟩
    obtain ⟨dy, α2, h2, _, x2, rh2, r2, f2⟩ := hq
    refine pairs_in ((re.ext x1).ext x2) rh2 ((Fin.split f2).imp fun ps H3 hq => ?_)
    obtain ⟨dps, α3, h3, _, x3, rh3, ⟨kvs, rfl, r3⟩, f3⟩ := hq
    cases e : keyD dx with
    | none => rw [e] at f3; exact (show False from f3).elim
    | some ky =>
      rw [e] at f3
      refine f3 α3 H3 _ .refl rh3 ⟨(ky, y) :: kvs, ?_, .cons (RelD.ext x3 _ _ r2) r3⟩
      rw [List.map_cons, keyD_rel e r1]
theorem RelKs.merge {α : List Addr} {H : Hp} : ∀ {more : List (Key × D)} {ws : List (Key × V)} {kvs : List (Key × D)} {vs : List (Key × V)}, RelKs R α H more ws → RelKs R α H kvs vs → RelKs R α H (mergeD kvs more) (mergeK vs ws)
  | [], ws, kvs, vs, r, q => by rw [r.nil_inv]; exact q
  | (k, d) :: t, ws, kvs, vs, r, q => by
    obtain ⟨v, t', rfl, r1, r2⟩ := r.cons_inv
    show RelKs R α H (mergeD (putD kvs k d) t) (mergeK (putK vs k v) t')
    exact RelKs.merge r2 (q.put r1)
theorem de_dict {keys : List (Option Expr)} {values : List Expr} {prs : List (Fe × Fe)} (h : DPs X R W pos keys values prs) (h0 : keys ≠ [] := by simp) (hall : keys.all (·.isSome) = true := by rfl) (hl : keys.length = values.length := by rfl) (h15 : keys.length ≤ 15 := by decide) :
    DE X R W (.Dict keys values pos) (eDict prs) := by
  refine ⟨fun pins s σ H Q I q => (pe_disp (pos := pos) h hall hl h0 h15).run pins s σ H Q I fun p hp => ?_⟩
  obtain ⟨α, env, hd, re, rh, fi⟩ := q
  have x0 : Ext α H (α ++ [p]) (upd H p (.dK [])) := Ext.new hp
  have rh0 : RH R (α ++ [p]) (hd ++ [.dic []]) (upd H p (.dK [])) := rh.new hp ⟨[], upd_same, .nil⟩
  have ep : (α ++ [p])[hd.length]? = some p := rh.new_at
  refine pairs_in (re.ext x0) rh0 ((Fin.split (Fin.mono (r := (pairsD prs env (hd ++ [.dic []])).bind fun ps h1 => if (emptyDic h1[hd.length]? && decide (ps.length ≤ 15)) = true then Res.ok (D.ref hd.length) (h1.set hd.length (.dic (mergeD [] ps))) else .no) fi x0)).imp fun ps H1 hq => ?_)
  obtain ⟨dps, α1, h1, _, x1, rh1, ⟨kvs, rfl, r1⟩, f1⟩ := hq
  split at f1
  · rename_i hk
    rw [Bool.and_eq_true, decide_eq_true_eq] at hk
    obtain ⟨k1, k2⟩ := hk
    obtain ⟨ob, eo, ro⟩ := rh1.at (x1.get ep)
    rw [eo] at k1
    have e0 : ob = .dic [] := by
      cases ob with
      | dic l => cases l with
        | nil => rfl
        | cons _ _ => cases k1
      | _ => cases k1
    subst e0
    obtain ⟨ws, q, r0⟩ := ro
    rw [r0.nil_inv] at q
    refine ⟨q, kvs, rfl, by rw [← r1.length]; exact k2, ?_⟩
    have x2 : Ext α1 H1 α1 (upd H1 p (.dK (mergeK [] kvs))) := Ext.write q trivial
    have rh2 : RH R α1 (h1.set hd.length (.dic (mergeD [] dps))) (upd H1 p (.dK (mergeK [] kvs))) := rh1.write (x1.get ep) q trivial ⟨_, upd_same, RelKs.ext x2 _ _ (r1.merge .nil)⟩
    exact f1 α1 _ _ x2 rh2 (.ref (x1.get ep))
  · exact (show False from f1).elim
theorem de_dict0 : DE X R W (.Dict [] [] pos) eDict0 := by
  refine ⟨fun pins s σ H Q I q => (pe_dnewK (pos := pos)).run pins s σ H Q I fun p hp => ?_⟩
  obtain ⟨α, env, hd, re, rh, fi⟩ := q
  exact fi _ _ _ (Ext.new hp) (rh.new hp ⟨[], upd_same, .nil⟩) (.ref rh.new_at)
end
/-! ### a call of a local that holds a def -/
abbrev Tb := List (Str × (List D → Hd → Res D))
@[simp] def eCallV (i : Nat) (L : Tb) (fa : Fa) : Fe := fun env h => match env[i]? with
  | some (some (.gl x)) => (match L.lookup x with
    | some F => (fa env h).bind F
    | none => .no)
  | _ => .no
def Deeds (Tt : List (Addr × Str)) (X : Cx) (n : Nat) (L : Tb) : Prop := ∀ x F, L.lookup x = some F → ∃ (d : He.DefD) (ps : List Str) (k : Nat) (F0 : List D → Hd → Res D) (gD : List D → List D), FDx X.prog X.w X.K X.mg Tt X.base d ps k F0 ∧ RoomG k X.A ∧ X.mg x = some (.ref (He.fAd X.K d.at_)) ∧
  (∀ fd, FunD X.K d.name d.qual d.params d.body d.scope (d.dvs X.K) (d.kws X.K) (He.fAd X.K d.at_) fd → Bnd X.K fd ps n [] (fun ds _ => gD ds)) ∧ F = fun ds => F0 (gD ds)
section
variable {Tt : List (Addr × Str)} {X : Cx} {W : WX} {pos p : Pos} {x : Str} {e : Expr} {es : List Expr} {fa : Fa} {L : Tb}
theorem deeds_nil {n : Nat} : Deeds Tt X n [] := fun _ _ h => by cases h
theorem deeds_cons {n : Nat} {d : He.DefD} {ps : List Str} {k : Nat} {F0 : List D → Hd → Res D} {gD : List D → List D} (y : Str) (h1 : FDx X.prog X.w X.K X.mg Tt X.base d ps k F0) (h2 : RoomG k X.A) (h3 : X.mg y = some (.ref (He.fAd X.K d.at_)))
    (h4 : ∀ fd, FunD X.K d.name d.qual d.params d.body d.scope (d.dvs X.K) (d.kws X.K) (He.fAd X.K d.at_) fd → Bnd X.K fd ps n [] (fun ds _ => gD ds)) (t : Deeds Tt X n L) : Deeds Tt X n ((y, fun ds => F0 (gD ds)) :: L) := by
  intro z F h
  rw [List.lookup_cons] at h
  by_cases e : z = y
  · subst e
    rw [beq_self_eq_true] at h
    cases h
    exact ⟨d, ps, k, F0, gD, h1, h2, h3, h4, rfl⟩
  · have : (z == y) = false := by simpa using e
    rw [this] at h
    exact t z F h
theorem de_callV (i : Nat) (hD : Deeds Tt X (e :: es).length L) (tk : Takes X W) (ha : DA X (rx X.K X.mg Tt) W (e :: es) fa) (hlen : ∀ env h ds h1, fa env h = .ok ds h1 → ds.length = (e :: es).length) (hN : X.N[i]? = some x := by rfl)
    (hv : Vis X.env.scope x := by first | exact Or.inl rfl | exact Or.inr (Or.inl rfl) | exact Or.inr (Or.inr rfl))
    (hdb : (x == ("__debug__" : Str)) = false := by decide) (hcd : (x == ("__classdict__" : Str)) = false := by decide) (he : starEach (e :: es) X.env = (false, eval e X.env) :: starEach es X.env := by rfl) (hpl : (backTo pos (starEach es X.env)).any (·.1) = false := by rfl) :
    DE X (rx X.K X.mg Tt) W (.Call (.Name x p) (e :: es) [] pos) (eCallV i L fa) := by
  refine ⟨fun pins s σ H Q I h => ?_⟩
  obtain ⟨α, env, hp, re, rh, fi⟩ := h
  have fi : FinE (rx X.K X.mg Tt) W α H σ (match env[i]? with
    | some (some (.gl x)) => (match L.lookup x with
      | some F => (fa env hp).bind F
      | none => .no)
    | _ => .no) Q := fi
  cases e1 : env[i]? with
  | none => rw [e1] at fi; exact fi.elim
  | some od =>
    rw [e1] at fi
    cases od with
    | none => exact (show False from fi).elim
    | some d =>
      cases d with
      | gl y =>
        dsimp only at fi
        cases e2 : L.lookup y with
        | none => rw [e2] at fi; exact (show False from fi).elim
        | some F =>
          rw [e2] at fi
          obtain ⟨d, ps, k, F0, gD, hF, hr, hm, hb, rfl⟩ := hD y F e2
          obtain ⟨v, h1, h2⟩ := re.2 i _ e1
          obtain ⟨a, g1, rfl⟩ := (h2.to fun _ z => nomatch z).gl_inv
          have g1 : X.mg y = some (.ref a) := g1
          rw [hm] at g1
          cases g1
          obtain ⟨fd, FD, Fk⟩ := hF.ex
          refine wpAny_Call_Name_kw (thn ((pe_var (pos := p) hN hv hdb hcd).run pins s σ H (fun v H1 => v = .ref (He.fAd X.K d.at_) ∧ H1 = H) I ⟨.ref _, h1, rfl, rfl⟩) fun u s1 ⟨v, H1, I1, r1, q1⟩ => ?_)
          obtain ⟨rfl, rfl⟩ := q1
          cases r1
          refine PySem.W.callWith_K (h₀ := X.base) I.ok.mod.kin FD.kp (thn (ha.run pos pins s1 σ _ _ I1 ⟨α, env, hp, re, rh, Fin.split (g := fun ds => F0 (gD ds)) fi⟩) fun us s2 ⟨vs, H2, I2, r, q⟩ => ⟨I2.kIn, ?_⟩) he hpl
          obtain ⟨ds, α1, h1', e1', x1, rh1, rd1, f1⟩ := q
          exact run_fd (ws := []) (zs := []) (dz := []) (gD := fun ds _ => gD ds) Fk hr (hb fd FD) tk I2 r .nil (rd1.length.symm.trans (hlen _ _ _ _ e1')) rfl rd1 .nil rh1 f1
      | _ => exact (show False from fi).elim
end
end Mi

set_option Elab.async false
set_option linter.all false
set_option maxRecDepth 100000
set_option maxHeartbeats 1000000
namespace Mi
open PySem PySem.Spec PyProof.Rows L2
/-! ### small things -/
theorem RoomG.u64 {k : Nat} {A : Around} (r : RoomG k A) : A.units + 64 < cLine := by have := r.rm.un; omega
theorem RoomG.u65 {k : Nat} {A : Around} (r : RoomG k A) : A.units + 65 < cLine := by have := r.rm.un; omega
theorem RoomG.u1 {k : Nat} {A : Around} (r : RoomG k A) : A.units + 1 < cLine := by have := r.rm.un; omega
theorem RoomG.u0 {k : Nat} {A : Around} (r : RoomG k A) : A.units < cLine := by have := r.rm.un; omega
theorem takes_W0 {X : Cx} : Takes X W0 := fun _ _ ⟨_, _, _, _, _, _, _, _, _, _, _, _, _, _, _, _, w⟩ => w.elim
theorem al_nil : ∀ (env : En) (h : Hd) (ds : List D) (h1 : Hd), aNil env h = .ok ds h1 → ds.length = 0 := fun _ _ _ _ e => by
  unfold aNil at e
  cases e
  rfl
theorem al_cons {f : Fe} {g : Fa} {n : Nat} (t : ∀ (env : En) (h : Hd) (ds : List D) (h1 : Hd), g env h = .ok ds h1 → ds.length = n) : ∀ (env : En) (h : Hd) (ds : List D) (h1 : Hd), aCons f g env h = .ok ds h1 → ds.length = n + 1 := fun env h ds h1 e => by
  unfold aCons at e
  cases e1 : f env h with
  | no => rw [e1] at e; cases e
  | ex x h2 => rw [e1] at e; cases e
  | ok x h2 =>
    rw [e1] at e
    have e : (g env h2).bind (fun xs h2 => .ok (x :: xs) h2) = .ok ds h1 := e
    cases e2 : g env h2 with
    | no => rw [e2] at e; cases e
    | ex x h3 => rw [e2] at e; cases e
    | ok xs h3 =>
      rw [e2] at e
      cases e
      rw [List.length_cons, t _ _ _ _ e2]
/-! ### how arguments come to parameters -/
def gI (ix : List Nat) {A : Type} (us ws : List A) : List A := ix.filterMap fun i => (us ++ ws)[i]?
theorem gI_len {A : Type} {us ws : List A} : ∀ {ix : List Nat}, (∀ i ∈ ix, i < us.length + ws.length) → (gI ix us ws).length = ix.length
  | [], _ => rfl
  | i :: r, h => by
    have hi : i < (us ++ ws).length := by rw [List.length_append]; exact h i (List.mem_cons_self ..)
    have := gI_len (us := us) (ws := ws) (ix := r) fun j hj => h j (List.mem_cons_of_mem _ hj)
    unfold gI at this ⊢
    rw [List.filterMap_cons, List.getElem?_eq_getElem hi]
    show _ + 1 = _ + 1
    rw [this]
theorem gI_vals {us ws : List Value} {vs zs : List V} (r : Vals vs us) (q : Vals zs ws) : ∀ ix : List Nat, Vals (gI ix vs zs) (gI ix us ws)
  | [] => .nil
  | i :: t => by
    have ih := gI_vals r q t
    have ra := r.append q
    unfold gI at ih ⊢
    rw [List.filterMap_cons, List.filterMap_cons]
    cases e : (vs ++ zs)[i]? with
    | none =>
      have : (us ++ ws)[i]? = none := by
        rw [List.getElem?_eq_none_iff, ← ra.length]
        exact List.getElem?_eq_none_iff.mp e
      rw [this]
      exact ih
    | some v =>
      obtain ⟨u, hu, ru⟩ := ra.get e
      rw [hu]
      exact .cons ru ih
theorem gI_rel {R : Rx} {α : List Addr} {H : Hp} {ds dz : List D} {vs zs : List V} (r : RelDs R α H ds vs) (q : RelDs R α H dz zs) : ∀ ix : List Nat, RelDs R α H (gI ix ds dz) (gI ix vs zs)
  | [] => .nil
  | i :: t => by
    have ih := gI_rel r q t
    have ra := r.append q
    unfold gI at ih ⊢
    rw [List.filterMap_cons, List.filterMap_cons]
    cases e : (ds ++ dz)[i]? with
    | none =>
      have : (vs ++ zs)[i]? = none := by
        rw [List.getElem?_eq_none_iff, ← ra.length]
        exact List.getElem?_eq_none_iff.mp e
      rw [this]
      exact ih
    | some v =>
      obtain ⟨u, hu, ru⟩ := ra.get e
      rw [hu]
      exact .cons ru ih
section
variable {K : PySem.W.Frag} {x qual : Str} {params : Arguments} {body : List Stmt} {scope : Scope} {kws : List (Str × V)} {f : Addr} {fd : FuncData} {ps : List Str}
theorem bnd_pos {dvs : List V} (F : FunD K x qual params body scope dvs kws f fd) (hd : dvs = []) 
    (h : ∀ (kV doc pm : Value) (an : Option Addr) (cdv ct : Value) (us : List Value), us.length = ps.length → bindArgs (PySem.W.fnOf x qual params body scope .none kV doc pm an cdv ct) ⟨us, []⟩ = pure (ps.zip us)) (n : Nat) (hn : n = ps.length) : Bnd K fd ps n [] (fun ds _ => ds) := by
  subst hd hn
  have b := F.bindsN h
  refine ⟨fun us _ => us, fun vs _ => vs, ⟨fun s us ws X l1 l2 => ?_, fun r _ => r⟩, fun vs zs l1 _ => l1, fun R α H ds vs ws zs r _ => r⟩
  have := b s us X (by rw [List.append_nil]; exact l1)
  rw [List.append_nil] at this
  exact this
theorem bnd_kw {dvs : List V} (F : FunD K x qual params body scope dvs kws f fd) (hd : dvs = []) (n : Nat) (ks : List Str) (ix : List Nat) (hl : ix.length = ps.length) (hi : ∀ i ∈ ix, i < n + ks.length)
    (h : ∀ (kV doc pm : Value) (an : Option Addr) (cdv ct : Value) (us ws : List Value), us.length = n → ws.length = ks.length → bindArgs (PySem.W.fnOf x qual params body scope .none kV doc pm an cdv ct) ⟨us, ks.zip ws⟩ = pure (ps.zip (gI ix us ws))) : Bnd K fd ps n ks (fun ds ws => gI ix ds ws) := by
  subst hd
  obtain ⟨oc, od, dV, kV, doc, pm, an, cdv, ct, osl, rfl, lk, hcd, hD, hK⟩ := F.ex
  rcases hD with ⟨_, rfl⟩ | ⟨e, _⟩
  · refine ⟨fun us ws => gI ix us ws, fun vs zs => gI ix vs zs, ⟨fun s us ws X l1 l2 => .of_eq (h kV doc pm an cdv ct us ws l1 l2), fun r q => gI_vals r q ix⟩, fun vs zs l1 l2 => ?_, fun R α H ds vs ws zs r q => gI_rel r q ix⟩
    rw [gI_len (fun i hx => by rw [l1, l2]; exact hi i hx), hl]
  · exact absurd rfl e
end
/-! ### the end -/
theorem law_callG {P : Program} {w : World} {K : PySem.W.Frag} {mg mb : Str → Option Value} {CX : CXT} {k : Nat} {fa a : Addr} {fd : FuncData} {x : Str} {sp : Sp} {s₁ : Shared} {vs : List Value} {ns : List Int}
    (KX : K.In s₁.heap) (hns : s₁.heap.Ns mainGlobals mg) (hb : s₁.heap.Ns builtinsNs mb) (hbb : ∀ x : Str, x ≠ "__name__" → mb x = bootBuiltins x) (hlim : s₁.heap.NoLimit) (hg : s₁.gens = #[])
    (ha : s₁.heap.get? a = some { cls := .type "list", data := .seq vs.toArray }) (hi : IntsAre vs ns) (hl : ns.length ≤ sizeLine) (hr : RoomG k callerA)
    (F : ∀ base : Heap, K.In base → base.Ns mainGlobals mg → FnG P w K mg base CX k fa fd [x] sp) (hbind : ∀ (s : Shared) (u : Value), BindsTo s fd ⟨[u], []⟩ [(x, u)])
    (hsp : ∀ H : Hp, Only H → (∃ ob, H a = some (.frz ob (.lst (ns.map V.int)))) ∨ K.lookup a ≠ none → SqL K H a (ns.map V.int) → sp [.ref a] H (fun v _ => v = .bl true) fun _ _ _ => False) (hKa : K.lookup a = none ∨ True)
    (hCX : ∀ H e s', CX [] H s₁ (fun _ _ _ => False) e s' → False) :
    codeAny (model P w) callerA (.call (.ref fa) ⟨[.ref a], []⟩) (fun r s' => r = .ok (.ret (.bool true)) ∧ OldK s₁.heap s'.heap ∧ s'.os = s₁.os ∧ AllBare s'.gens) s₁ := by
  have rv := vals_ints hi
  have lenV := hi.length
  have core : ∀ H : Hp, Only H → (∃ ob, H a = some (.frz ob (.lst (ns.map V.int)))) ∨ K.lookup a ≠ none → SqL K H a (ns.map V.int) → HOk P w H s₁.heap → (∀ b, H b ≠ none → b = a) → (H a ≠ none → K.lookup a = none) →
      codeAny (model P w) callerA (.call (.ref fa) ⟨[.ref a], []⟩) (fun r s' => r = .ok (.ret (.bool true)) ∧ OldK s₁.heap s'.heap ∧ s'.os = s₁.os ∧ AllBare s'.gens) s₁ := by
    intro H hO hz hS hok hA hK
    have base_of : ∀ {b : Addr} {o : Obj}, s₁.heap.get? b = some o → H b = none → (hidT s₁.heap H).get? b = some o := fun e n => hidT_get e n
    have noA : ∀ {b : Addr} {o : Obj} {es : Array DictEntry} {ep : Nat}, s₁.heap.get? b = some o → o.data = .dict es ep → H b = none := fun {b o es ep} e d => by
      cases q : H b with
      | none => rfl
      | some u =>
        have e' : b = a := hA b (by rw [q]; simp)
        subst e'
        rw [ha] at e; cases e
        have d' : Data.seq vs.toArray _ = Data.dict es ep := d
        cases d'
    have nsK : ∀ {b : Addr} {m : Str → Option Value}, s₁.heap.Ns b m → (hidT s₁.heap H).Ns b m := fun {b m} ⟨o, es, ep, e, d, r⟩ => ⟨o, es, ep, base_of e (noA e d), d, r⟩
    have hKb : K.In (hidT s₁.heap H) := fun b o e => base_of (KX b o e) (by
      cases q : H b with
      | none => rfl
      | some u =>
        have e' : b = a := hA b (by rw [q]; simp)
        subst e'
        rw [hK (by rw [q]; simp)] at e; cases e)
    have hM : Mod K mg (hidT s₁.heap H) := ⟨hKb, nsK hns, ⟨mb, nsK hb, hbb⟩, let ⟨mc, h1, h2⟩ := hlim; ⟨mc, nsK h1, h2⟩⟩
    have e0 : Env0 P w K mg (hidT s₁.heap H) callerA [] s₁ H := ⟨rfl, hM, fun b o e => of_hidT e, Nat.le_of_eq (hidT_size _ _), trivial, fun b hb => absurd (show b ∈ ([] : List Addr) from hb) (by simp), hok, .of_eq hg⟩
    refine codeAny_mono ((F _ hKb (nsK hns)).run callerA [] s₁ H ⟨[.ref a], []⟩ [.ref a] [.ref a] _ _ hr e0 (hbind s₁ (.ref a)) (.cons rfl .nil) (hsp H hO hz hS)) fun r s' h => ?_
    cases r with
    | error e => exact (hCX H e s' h).elim
    | ok fl =>
      cases fl with
      | next => exact False.elim h
      | brk => exact False.elim h
      | cont => exact False.elim h
      | ret u =>
        obtain ⟨v, H', os, bare, un, hok', r', q⟩ := h
        have q' : v = .bl true := q
        subst q'
        obtain rfl : u = Value.bool true := r'
        refine ⟨rfl, OldK.of_keep fun b o e => ?_, os, bare⟩
        cases q : H b with
        | none => exact un.keep b o e q (by intro z; exact absurd (show b ∈ ([] : List Addr) from z) (by simp)) (by simp)
        | some u =>
          rcases hO b with z | ⟨ob, xs, z⟩
          · rw [q] at z; cases z
          · have z2 := un.frzs b ob _ z
            obtain ⟨e1, _⟩ := hok b _ z
            obtain ⟨e2, _⟩ := hok' b _ z2
            rw [e] at e1; cases e1
            exact e2
  cases hk : K.lookup a with
  | some o =>
    have e := KX a o hk
    rw [ha] at e
    cases e
    refine core (fun _ => none) (fun _ => .inl rfl) (.inr (by rw [hk]; exact fun z => nomatch z)) (.inr ⟨_, vs.toArray, _, hk, rfl, rfl, rfl, by rw [List.size_toArray, lenV]; exact hl, by simpa using rv⟩) (fun b u z => by have z' : (none : Option HO) = some u := z; cases z') (fun b z => absurd rfl z) fun z => absurd rfl z
  | none =>
    refine core (fun b => if b = a then some (.frz { cls := .type "list", data := .seq vs.toArray } (.lst (ns.map V.int))) else none) (fun b => ?_) (.inl ⟨{ cls := .type "list", data := .seq vs.toArray }, if_pos rfl⟩) (.inl (.inr ⟨{ cls := .type "list", data := .seq vs.toArray }, if_pos rfl⟩)) (fun b u z => ?_) (fun b z => ?_) fun _ => hk
    · by_cases hb : b = a
      · exact .inr ⟨_, _, if_pos hb⟩
      · exact .inl (if_neg hb)
    · by_cases hb : b = a
      · have z' := (if_pos hb).symm.trans z
        cases z'
        subst hb
        exact ⟨ha, by rw [List.length_map]; exact hl, vs, _, rv, ha⟩
      · have z' := (if_neg hb).symm.trans z
        cases z'
    · by_cases hb : b = a
      · exact hb
      · exact absurd (if_neg hb) z
end Mi

set_option Elab.async false
set_option linter.all false
set_option maxRecDepth 100000
set_option maxHeartbeats 1000000
namespace Mi
open PySem PySem.Spec PyProof.Rows L2
open PySem.W (Frag)
/-! ### the hook -/
def isLst (o : Obj) : Bool := match o.cls with
  | .type n => n == "list"
  | _ => false
def asM (g : Addr → Option Obj) : Nat → List Addr
  | 0 => [mainGlobals, cStatics]
  | n + 1 => He.growD g (asM g n)
def frM (g : Addr → Option Obj) (n : Nat) : Frag := (He.frG g (asM g n)).filter fun p => !(isLst p.2)
theorem frG_mem {g : Addr → Option Obj} {p : Addr × Obj} {as : List Addr} (h : p ∈ He.frG g as) : g p.1 = some p.2 := by
  unfold He.frG at h
  obtain ⟨a, _, e⟩ := List.mem_filterMap.mp h
  obtain ⟨o, e1, e2⟩ := Option.map_eq_some_iff.mp e
  subst e2
  exact e1
theorem lookup_mem {α β : Type} [BEq α] [LawfulBEq α] {a : α} {b : β} : ∀ {l : List (α × β)}, l.lookup a = some b → (a, b) ∈ l
  | [], h => by cases h
  | (c, d) :: l, h => by
    rw [List.lookup_cons] at h
    by_cases e : (a == c) = true
    · rw [e] at h
      cases h
      rw [eq_of_beq e]
      exact List.mem_cons_self ..
    · rw [Bool.not_eq_true] at e
      rw [e] at h
      exact List.mem_cons_of_mem _ (lookup_mem h)
theorem frM_in {h : Heap} {n : Nat} : (frM h.get? n).In h := fun a o e => by
  have := lookup_mem e
  unfold frM at this
  exact frG_mem (p := (a, o)) (List.mem_filter.mp this).1
theorem frM_no {g : Addr → Option Obj} {n : Nat} {p : Addr × Obj} (h : p ∈ frM g n) : isLst p.2 = false := by
  unfold frM at h
  simpa using (List.mem_filter.mp h).2
def obsK (fs : List (Frag → Bool)) (fn : List He.DefD) (K : Frag) : He.AlD := ((fs.all fun f => f K) && fn.all fun d => d.ok K, fn.map fun d => He.fnW K d.at_)
def obsM (n : Nat) (fs : List (Frag → Bool)) (fn : List He.DefD) (g : Addr → Option Obj) : He.AlD := obsK fs fn (frM g n)
def hookM (n : Nat) (fs : List (Frag → Bool)) (fn : List He.DefD) : PySem.W.Hook where
  α := He.AlD
  obs := fun s => obsM n fs fn s.heap.get?
  val := fun _ => He.valD fn
  says := fun _ h => ∃ K : Frag, K.In h ∧ (∀ p ∈ K, isLst p.2 = false) ∧ obsK fs fn K = He.valD fn
  of := fun _ _ e => ⟨_, frM_in, fun _ h => frM_no h, e⟩
  keeps := fun _ _ _ ⟨K, hK, hn, c⟩ k => ⟨K, PySem.W.Frag.In.keeps hK k, hn, c⟩
theorem obsM_eq {n : Nat} {fs : List (Frag → Bool)} {fn : List He.DefD} {g : Addr → Option Obj} {s : Shared} (h : ∀ a, g a = s.heap.get? a) : obsM n fs fn g = (hookM n fs fn).obs s := by
  have e : g = s.heap.get? := funext h
  rw [e] <;> rfl
section
variable {fs : List (Frag → Bool)} {fn : List He.DefD} {K : Frag}
theorem saysD (c : obsK fs fn K = He.valD fn) : He.SaysD [] fn K := by
  have c1 : ((fs.all fun f => f K) && fn.all fun d => d.ok K) = true := congrArg (fun z : He.AlD => z.1) c
  have c2 : fn.map (fun d => He.fnW K d.at_) = fn.map He.DefD.val := congrArg (fun z : He.AlD => z.2) c
  show (((([] : List He.Fa).all fun f => f.ok K) && fn.all fun d => d.ok K), fn.map fun d => He.fnW K d.at_) = (true, fn.map He.DefD.val)
  rw [c2, (He.ba c1).2]
  rfl
theorem fact (c : obsK fs fn K = He.valD fn) (i : Nat) {f : Frag → Bool} (h : fs[i]? = some f := by rfl) : f K = true := by
  have c1 : ((fs.all fun f => f K) && fn.all fun d => d.ok K) = true := congrArg (fun z : He.AlD => z.1) c
  exact List.all_eq_true.mp (He.ba c1).1 f (List.mem_of_getElem? h)
theorem def_ (c : obsK fs fn K = He.valD fn) (i : Nat) {d : He.DefD} (h : fn[i]? = some d := by rfl) : ∃ fd, FunD K d.name d.qual d.params d.body d.scope (d.dvs K) (d.kws K) (He.fAd K d.at_) fd := (saysD c).def_ i h
end
/-! ### an own exception class, by facts -/
def valB (initId : String) : Option PySem.W.CFound → Bool
  | some (.val (.builtin s)) => s == initId
  | _ => false
/-- own: the base as the text names it is an own class -/
def baseB (K : Frag) (own : Bool) (b : Str) (T initId : String) : Bool :=
  if own = true then He.eqO (PySem.W.nsIn K mainGlobals b) (some (some (.ref (He.ga K b)))) && (He.eqO (PySem.W.specialIn K (.ref (He.ga K b)) "__getattribute__") (some (some (.builtin "type.__getattribute__"))) && (PySem.W.readsIn K (He.ga K b) (.type "type") && valB initId (PySem.W.findCls K (.ref (He.ga K b)) (.type "type") "__init__")))
  else He.eqO (PySem.W.nsIn K mainGlobals b) (some none) && valB initId (PySem.W.findCls K (.type T) (.type "type") "__init__")
def xcB (c f b : Str) (own : Bool) (T newId initId : String) (bm : List Value) (K : Frag) : Bool :=
  He.eqO (PySem.W.nsIn K mainGlobals c) (some (some (.ref (He.ga K c)))) && (PySem.W.excInitIn K (He.ga K c) bm newId && (PySem.W.hasDictIn K (He.ga K c) && (He.eqO (PySem.W.findIn K (.ref (He.ga K c)) "__setattr__") (some (some (.builtin "object.__setattr__"))) &&
  (He.eqO (PySem.W.findIn K (.ref (He.ga K c)) "__getattribute__") (some (some (.builtin "BaseException.__getattribute__"))) && (He.eqO (PySem.W.findIn K (.ref (He.ga K c)) "__getattr__") (some none) && (He.eqO (PySem.W.findIn K (.ref (He.ga K c)) f) (some none) &&
  (He.eqO (PySem.W.findIn K (.ref (He.ga K c)) "__init__") (some (some (.ref (He.ma K (He.ga K c) "__init__")))) && (decide (PySem.W.typeIn K (.ref (He.ma K (He.ga K c) "__init__")) = some (.type "function")) && (PySem.W.keepIn K (.ref (He.ga K c)) &&
  (decide (PySem.W.subIn K (.ref (He.ga K c)) (.type "BaseException") = some true) && (decide (PySem.W.typeIn K (.ref (He.ga K c)) = some (.type "type")) && baseB K own b T initId)))))))))))
theorem valB_ok {initId : String} {o : Option PySem.W.CFound} (h : valB initId o = true) : o = some (.val (.builtin initId)) := by
  unfold valB at h
  split at h
  · rw [beq_iff_eq] at h; rw [h]
  · cases h
theorem base_ok {K : Frag} {h : Heap} {mg : Str → Option Value} (X : K.In h) (G : h.Ns mainGlobals mg) {own : Bool} {b : Str} {T initId : String} (hb : baseB K own b T initId = true) (hT : own = false → bootBuiltins b = some (.type T) ∧ b ≠ "__name__" ∧ typeOf (.type T) = pure (.type "type") ∧ Manifest.isStub T = false) : MiX.BaseOk K mg b initId := by
  unfold baseB at hb
  cases own with
  | true =>
    rw [if_pos rfl] at hb
    obtain ⟨h1, hb⟩ := He.ba hb
    obtain ⟨h2, hb⟩ := He.ba hb
    obtain ⟨h3, h4⟩ := He.ba hb
    exact .inl ⟨_, PySem.W.mg_of X G (He.eqO_ok h1), He.eqO_ok h2, h3, valB_ok h4⟩
  | false =>
    rw [if_neg (by decide)] at hb
    obtain ⟨h1, h2⟩ := He.ba hb
    obtain ⟨t1, t2, t3, t4⟩ := hT rfl
    exact .inr ⟨T, PySem.W.mg_none_of X G (He.eqO_ok h1), t1, t2, t3, t4, valB_ok h2⟩
theorem xc_ok {K : Frag} {h : Heap} {mg : Str → Option Value} (X : K.In h) (G : h.Ns mainGlobals mg) {c f b : Str} {own : Bool} {T newId initId : String} {bm : List Value} (q : xcB c f b own T newId initId bm K = true)
    (hT : own = false → bootBuiltins b = some (.type T) ∧ b ≠ "__name__" ∧ typeOf (.type T) = pure (.type "type") ∧ Manifest.isStub T = false)
    (d1 : (f == ("__debug__" : Str)) = false) (d2 : f ≠ "self") (d3 : (b == ("__debug__" : Str)) = false) (d4 : b ≠ "self") (d5 : b ≠ f)
    {qual msg : Str} {dfl : List Expr} {j : Nat} {p1 p2 q1 q2 q3 q4 q5 q6 r1 r2 r3 r4 : Pos} {dvs : List V} (FD : ∃ fd, FunD K "__init__" qual (MiX.iA f dfl p1 p2) (MiX.iB f b msg j q1 q2 q3 q4 q5 q6 r1 r2 r3 r4) (MiX.iS f b) dvs [] (He.ma K (He.ga K c) "__init__") fd) (hdv : dvs = [V.non])
    (hcall : ∀ env : PySem.Env, ∃ pl, eval (.Call (.Attribute (.Name b q1) "__init__" q2) [.Name "self" q3, .Constant (.str msg) j q4] [] q5) env = (do
      let ov ← eval (.Name b q1) env
      standAt q2.atName
      let (f, first) ← holding [ov] (getMethod ov "__init__" pl)
      callWith q5 f first (backTo q5 (starEach [.Name "self" q3, .Constant (.str msg) j q4] env)) (backToKw q5 (keywordEach [] env)))) 
    (hbind : ∀ (T : Addr) (kV doc pm : Value) (an : Option Addr) (cdv ct : Value) (us its : List Value), us.length = 2 → its.length = 1 →
      ∃ k, bindArgs (PySem.W.fnOf "__init__" qual (MiX.iA f dfl p1 p2) (MiX.iB f b msg j q1 q2 q3 q4 q5 q6 r1 r2 r3 r4) (MiX.iS f b) (.ref T) kV doc pm an cdv ct) ⟨us, []⟩ = seqItems? (.ref T) >>= k ∧ k (some its.toArray) = pure ((["self", f] : List Str).zip (us ++ its.drop 1))) :
    MiX.XcTxt K mg c f b (He.ga K c) (He.ma K (He.ga K c) "__init__") newId initId bm := by
  unfold xcB at q
  obtain ⟨a1, q⟩ := He.ba q
  obtain ⟨a2, q⟩ := He.ba q
  obtain ⟨a3, q⟩ := He.ba q
  obtain ⟨a4, q⟩ := He.ba q
  obtain ⟨a5, q⟩ := He.ba q
  obtain ⟨a6, q⟩ := He.ba q
  obtain ⟨a7, q⟩ := He.ba q
  obtain ⟨a8, q⟩ := He.ba q
  obtain ⟨a9, q⟩ := He.ba q
  obtain ⟨a10, q⟩ := He.ba q
  obtain ⟨a11, q⟩ := He.ba q
  obtain ⟨a12, q⟩ := He.ba q
  obtain ⟨fd, FD⟩ := FD
  subst hdv
  obtain ⟨ds, v1, v2⟩ := FD.binds1 (ps := ["self", f]) 2 1 (by simp) rfl (fun T kV doc pm an cdv ct us its l1 l2 => hbind T kV doc pm an cdv ct us its l1 l2)
  refine { gC := PySem.W.mg_of X G (He.eqO_ok a1), ei := a2, hd := a3, sa := He.eqO_ok a4, ga := He.eqO_ok a5, gg := He.eqO_ok a6, noN := He.eqO_ok a7, iC := He.eqO_ok a8, tC := of_decide_eq_true a9, kC := a10, exC := of_decide_eq_true a11, tyC := of_decide_eq_true a12, fd_ := d1, fs_ := d2, bd_ := d3, bs_ := d4, bf_ := d5, base := base_ok X G q hT, fn := ?_ }
  refine ⟨qual, msg, dfl, j, p1, p2, q1, q2, q3, q4, q5, q6, r1, r2, r3, r4, _, fd, FD, hcall, fun us hl s KX => ?_⟩
  have e0 : ds = [] := by cases v1; rfl
  subst e0
  have := v2 s us KX (by rw [List.append_nil]; exact hl)
  rw [List.append_nil] at this
  exact this
/-! ### the law's end -/
theorem walk_ofG {l : PySem.W.OpenLaw} {n k : Nat} {q : Program} {loose : List Str} {XP : (Str → Option Value) → Heap → Prop} {fs : List (Frag → Bool)} {fn : List He.DefD} {m : Nat} {d : DefRec} {x : Str}
    (hn : l.most = some n) (hn2 : n ≤ sizeLine) (hdf : d.params.defaults = []) (hr : RoomG k callerA)
    (F : ∀ (w : World) (mg : Str → Option Value) (fa : Addr) (h : Heap) (K : Frag), K.In h → obsK fs fn K = He.valD fn → h.Ns mainGlobals mg → mg d.name = some (.ref fa) →
      ∃ (fd : FuncData) (F0 : List D → Hd → Res D), (∀ (s : Shared) (u : Value), BindsTo s fd ⟨[u], []⟩ [(x, u)]) ∧
        (∀ ns : List Int, ns.length ≤ n → (∀ z ∈ ns, Builtin.Int.intBits z ≤ 1048576) → ∃ h', F0 [.ref 0] [.fro (ns.map .int)] = .ok (.bl true) h') ∧
        ∀ base : Heap, K.In base → base.Ns mainGlobals mg → FnG l.prog w K mg base (L2.CX l.prog w) k fa fd [x] (spD (rx K mg []) 1 F0)) :
    PySem.W.WalkO q loose XP (hookM m fs fn).says l.row.toRowW d [] (fun f vs => PySem.call f vs) := by
  refine Att.attach_callB hn hdf fun w s₀ s₁ mg mb fa o pm cd doc a vs ns G Y ho hd hcd hmg hobj hints hlen hbits hg => ?_
  obtain ⟨K, KX, hnl, c⟩ := Y
  obtain ⟨fd, F0, hb, hmath, hF⟩ := F w mg fa _ K KX c G.T.g hmg
  have hk : K.lookup a = none := by
    cases e : K.lookup a with
    | none => rfl
    | some o =>
      have e2 := KX a o e
      rw [hobj] at e2
      cases e2
      have z : isLst ({ cls := .type "list", data := .seq vs.toArray } : Obj) = false := hnl _ (lookup_mem e)
      have z2 : isLst ({ cls := .type "list", data := .seq vs.toArray } : Obj) = true := by show ("list" == "list") = true; rfl
      rw [z2] at z
      cases z
  refine law_callG KX G.T.g G.T.b G.T.builtins G.T.nolimit hg hobj hints (Nat.le_trans hlen hn2) hr hF hb (fun H hO hz hS => ?_) (.inl hk) fun H e s' hx => ?_
  · rcases hz with ⟨ob, hz⟩ | hz
    · obtain ⟨h', hm⟩ := hmath ns hlen hbits
      refine ⟨rfl, [a], [.ref 0], [.fro (ns.map .int)], .cons (.ref rfl) .nil, ⟨rfl, by simp, fun i o e => ?_, (fun p hp => by cases hp), trivial⟩, ?_⟩
      · cases i with
        | zero => cases e; exact ⟨a, rfl, ns.map .int, ob, hz, rel_ints ns⟩
        | succ i => simp at e
      · rw [hm]
        exact fun α' H' v x rh r => r.bl_inv
    · exact absurd hk hz
  · obtain ⟨_, _, _, _, _, _, _, _, _, _, _, _, z⟩ := hx
    exact z
end Mi

set_option Elab.async false
set_option linter.all false
set_option maxRecDepth 100000
set_option maxHeartbeats 1000000
namespace Mi
open PySem PySem.Spec PyProof.Rows L2
/-! ### the heap -/
section
variable {A : Type} {h l : List A} {x : A}
@[simp] theorem app_at0 : (h ++ l)[h.length]? = l[0]? := by rw [List.getElem?_append_right (Nat.le_refl _), Nat.sub_self]
@[simp] theorem app_at {k : Nat} : (h ++ l)[h.length + k]? = l[k]? := by rw [List.getElem?_append_right (Nat.le_add_right _ _), Nat.add_sub_cancel_left]
@[simp] theorem app_set0 : (h ++ l).set h.length x = h ++ l.set 0 x := by rw [List.set_append_right _ _ (Nat.le_refl _), Nat.sub_self]
@[simp] theorem app_set {k : Nat} : (h ++ l).set (h.length + k) x = h ++ l.set k x := by rw [List.set_append_right _ _ (Nat.le_add_right _ _), Nat.add_sub_cancel_left]
theorem app_old {n : Nat} {o : A} (e : h[n]? = some o) : (h ++ l)[n]? = some o := by
  rw [List.getElem?_append_left (List.getElem?_eq_some_iff.mp e).1]
  exact e
end
/-- nothing old is touched but what stands in S -/
structure Kp (S : List Nat) (h h' : Hd) : Prop where
  len : h.length ≤ h'.length
  at_ : ∀ i o, i ∉ S → h[i]? = some o → h'[i]? = some o
theorem Kp.refl {S : List Nat} {h : Hd} : Kp S h h := ⟨Nat.le_refl _, fun _ _ _ e => e⟩
theorem Kp.trans {S : List Nat} {h h1 h2 : Hd} (a : Kp S h h1) (b : Kp S h1 h2) : Kp S h h2 := ⟨Nat.le_trans a.len b.len, fun i o hi e => b.at_ i o hi (a.at_ i o hi e)⟩
theorem Kp.app {S : List Nat} {h g : Hd} : Kp S h (h ++ g) := ⟨by rw [List.length_append]; exact Nat.le_add_right _ _, fun i o _ e => app_old e⟩
theorem Kp.mono {S T : List Nat} {h h' : Hd} (a : Kp S h h') (st : ∀ i ∈ S, i ∈ T) : Kp T h h' := ⟨a.len, fun i o hi => a.at_ i o fun z => hi (st i z)⟩
theorem Kp.any {T : List Nat} {h h' : Hd} (a : Kp [] h h') : Kp T h h' := a.mono fun _ z => by cases z
theorem Kp.set {S : List Nat} {h : Hd} {n : Nat} {o : Ob} (hn : n ∈ S) : Kp S h (h.set n o) := ⟨by rw [List.length_set]; exact Nat.le_refl _, fun i u hi e => by
  rw [List.getElem?_set_ne (show n ≠ i from fun z => hi (z ▸ hn))]
  exact e⟩
/-- a fresh object may be written -/
theorem Kp.setNew {S : List Nat} {h0 h : Hd} {n : Nat} {o : Ob} (a : Kp S h0 h) (hn : h0.length ≤ n) : Kp S h0 (h.set n o) := ⟨by rw [List.length_set]; exact a.len, fun i u hi e => by
  have := (List.getElem?_eq_some_iff.mp e).1
  rw [List.getElem?_set_ne (by omega)]
  exact a.at_ i u hi e⟩
/-! ### loops -/
def stepS (tg : Fg) (body : Fs) (d : D) (env : En) (h : Hd) : SRes := match tg d env h with
  | none => .no
  | some (env1, h1) => (match body env1 h1 with
    | .ct env2 h2 => .nx env2 h2
    | r => r)
theorem forL_step {src : Src} {tg : Fg} {body : Fs} {m i : Nat} {env env' : En} {h h' : Hd} {d : D} (e : src h i = .item d) (s : stepS tg body d env h = .nx env' h') : forL src tg body (m + 1) i env h = forL src tg body m (i + 1) env' h' := by
  unfold stepS at s
  show (match src h i with
    | .stop => SRes.nx env h
    | .bad => .no
    | .item d => (match tg d env h with
      | none => .no
      | some (env1, h1) => (match body env1 h1 with
        | .nx env2 h2 => forL src tg body m (i + 1) env2 h2
        | .ct env2 h2 => forL src tg body m (i + 1) env2 h2
        | .bk env2 h2 => .nx env2 h2
        | r => r))) = _
  rw [e]
  dsimp only
  cases e1 : tg d env h with
  | none => rw [e1] at s; cases s
  | some p =>
    obtain ⟨env1, h1⟩ := p
    rw [e1] at s
    dsimp only at s ⊢
    cases e2 : body env1 h1 <;> rw [e2] at s <;> cases s <;> rfl
theorem forL_stop {src : Src} {tg : Fg} {body : Fs} {m i : Nat} {env : En} {h : Hd} (e : src h i = .stop) : forL src tg body (m + 1) i env h = .nx env h := by
  show (match src h i with
    | .stop => SRes.nx env h
    | .bad => .no
    | .item d => (match tg d env h with
      | none => .no
      | some (env1, h1) => (match body env1 h1 with
        | .nx env2 h2 => forL src tg body m (i + 1) env2 h2
        | .ct env2 h2 => forL src tg body m (i + 1) env2 h2
        | .bk env2 h2 => .nx env2 h2
        | r => r))) = _
  rw [e]
theorem for_go {src : Src} {tg : Fg} {body : Fs} (n : Nat) (it : Nat → D) (P : Nat → En → Hd → Prop) (hs : ∀ i env h, i < n → P i env h → src h i = .item (it i) ∧ ∃ env' h', stepS tg body (it i) env h = .nx env' h' ∧ P (i + 1) env' h')
    (he : ∀ env h, P n env h → src h n = .stop) : ∀ (k i m : Nat) (env : En) (h : Hd), i + k = n → k < m → P i env h → ∃ env' h', forL src tg body m i env h = .nx env' h' ∧ P n env' h'
  | 0, i, m + 1, env, h, e, _, p => by
    have : i = n := by omega
    subst this
    exact ⟨env, h, forL_stop (he env h p), p⟩
  | k + 1, i, m + 1, env, h, e, hm, p => by
    obtain ⟨a, env', h', b, c⟩ := hs i env h (by omega) p
    rw [forL_step a b]
    exact for_go n it P hs he k (i + 1) m env' h' (by omega) (by omega) c
  | 0, _, 0, _, _, _, hm, _ => absurd hm (Nat.not_lt_zero _)
  | _ + 1, _, 0, _, _, _, hm, _ => absurd hm (Nat.not_lt_zero _)
theorem for_inv {src : Src} {tg : Fg} {body : Fs} {env : En} {h : Hd} (n : Nat) (it : Nat → D) (P : Nat → En → Hd → Prop) (h0 : P 0 env h) (hs : ∀ i env h, i < n → P i env h → src h i = .item (it i) ∧ ∃ env' h', stepS tg body (it i) env h = .nx env' h' ∧ P (i + 1) env' h')
    (he : ∀ env h, P n env h → src h n = .stop) (hn : n < most) : ∃ env' h', forL src tg body most 0 env h = .nx env' h' ∧ P n env' h' := for_go n it P hs he n 0 most env h (by omega) hn h0
/-! ### comprehensions -/
theorem lcL_step {src : Src} {tg : Fg} {tst : Ft} {el : Fe} {env env1 : En} {k m i : Nat} {h h1 h2 h3 : Hd} {d y : D} {acc : List D} (e : src h i = .item d) (g : tg d env h = some (env1, h1)) (t : tst env1 h1 = .ok true h2) (y_ : el env1 h2 = .ok y h3) (a : h3[k]? = some (.lst acc)) (hl : acc.length < 16777216) :
    lcL src tg tst el env k (m + 1) i h = lcL src tg tst el env k m (i + 1) (h3.set k (.lst (acc ++ [y]))) := by
  rw [lcL]
  rw [e]
  dsimp only
  rw [g]
  dsimp only
  rw [t]
  dsimp only
  rw [y_]
  dsimp only
  rw [a]
  dsimp only
  rw [if_pos hl]
theorem lcL_skip {src : Src} {tg : Fg} {tst : Ft} {el : Fe} {env env1 : En} {k m i : Nat} {h h1 h2 : Hd} {d : D} (e : src h i = .item d) (g : tg d env h = some (env1, h1)) (t : tst env1 h1 = .ok false h2) :
    lcL src tg tst el env k (m + 1) i h = lcL src tg tst el env k m (i + 1) h2 := by
  rw [lcL]
  rw [e]
  dsimp only
  rw [g]
  dsimp only
  rw [t]
theorem lcL_stop {src : Src} {tg : Fg} {tst : Ft} {el : Fe} {env : En} {k m i : Nat} {h : Hd} (e : src h i = .stop) : lcL src tg tst el env k (m + 1) i h = .ok (.ref k) h := by
  rw [lcL]
  rw [e]
/-- one turn: what it does with the heap, what it adds -/
def turnC (tg : Fg) (tst : Ft) (el : Fe) (env : En) (d : D) (h : Hd) : Res (List D) := match tg d env h with
  | none => .no
  | some (env1, h1) => (match tst env1 h1 with
    | .ok false h2 => .ok [] h2
    | .ok true h2 => (match el env1 h2 with
      | .ok y h3 => .ok [y] h3
      | _ => .no)
    | _ => .no)
theorem lc_go {src : Src} {tg : Fg} {tst : Ft} {el : Fe} {env : En} {k : Nat} (n : Nat) (it : Nat → D) (P : Nat → Hd → List D → Prop) (hs : ∀ i h acc, i < n → P i h acc → h[k]? = some (.lst acc) → src h i = .item (it i) ∧ ∃ ys h', turnC tg tst el env (it i) h = .ok ys h' ∧ h'[k]? = some (.lst acc) ∧ P (i + 1) (h'.set k (.lst (acc ++ ys))) (acc ++ ys))
    (he : ∀ h acc, P n h acc → h[k]? = some (.lst acc) → src h n = .stop) (hb : n ≤ 16777216) : ∀ (r i m : Nat) (h : Hd) (acc : List D), i + r = n → r < m → acc.length ≤ i → h[k]? = some (.lst acc) → P i h acc → ∃ h' acc', lcL src tg tst el env k m i h = .ok (.ref k) h' ∧ h'[k]? = some (.lst acc') ∧ acc'.length ≤ n ∧ P n h' acc'
  | 0, i, m + 1, h, acc, e, _, hl, hk, p => by
    have : i = n := by omega
    subst this
    exact ⟨h, acc, lcL_stop (he h acc p hk), hk, hl, p⟩
  | r + 1, i, m + 1, h, acc, e, hm, hl, hk, p => by
    obtain ⟨a, ys, h', b, c, q⟩ := hs i h acc (by omega) p hk
    have hk' : (h'.set k (.lst (acc ++ ys)))[k]? = some (.lst (acc ++ ys)) := List.getElem?_set_self (List.getElem?_eq_some_iff.mp c).1
    unfold turnC at b
    cases e1 : tg (it i) env h with
    | none => rw [e1] at b; cases b
    | some pr =>
      obtain ⟨env1, h1⟩ := pr
      rw [e1] at b
      dsimp only at b
      cases e2 : tst env1 h1 with
      | no => rw [e2] at b; cases b
      | ex _ _ => rw [e2] at b; cases b
      | ok t h2 =>
        rw [e2] at b
        cases t with
        | false =>
          dsimp only at b
          cases b
          rw [lcL_skip a e1 e2]
          have z : h'.set k (.lst (acc ++ [])) = h' := by
            rw [List.append_nil]
            refine List.ext_getElem? fun j => ?_
            by_cases hj : k = j
            · subst hj
              rw [List.getElem?_set_self (List.getElem?_eq_some_iff.mp c).1, c]
            · rw [List.getElem?_set_ne hj]
          rw [z] at q hk'
          rw [List.append_nil] at q hk'
          exact lc_go n it P hs he hb r (i + 1) m h' acc (by omega) (by omega) (by omega) hk' q
        | true =>
          dsimp only at b
          cases e3 : el env1 h2 with
          | no => rw [e3] at b; cases b
          | ex _ _ => rw [e3] at b; cases b
          | ok y h3 =>
            rw [e3] at b
            cases b
            rw [lcL_step a e1 e2 e3 c (by omega)]
            exact lc_go n it P hs he hb r (i + 1) m _ _ (by omega) (by omega) (by rw [List.length_append, List.length_singleton]; omega) hk' q
  | 0, _, 0, _, _, _, hm, _, _, _ => absurd hm (Nat.not_lt_zero _)
  | _ + 1, _, 0, _, _, _, hm, _, _, _ => absurd hm (Nat.not_lt_zero _)
theorem lc_inv {src : Src} {tg : Fg} {tst : Ft} {el : Fe} {env : En} {h : Hd} (n : Nat) (it : Nat → D) (P : Nat → Hd → List D → Prop) (h0 : P 0 (h ++ [.lst []]) []) (hs : ∀ i h1 acc, i < n → P i h1 acc → h1[h.length]? = some (.lst acc) → src h1 i = .item (it i) ∧ ∃ ys h', turnC tg tst el env (it i) h1 = .ok ys h' ∧ h'[h.length]? = some (.lst acc) ∧ P (i + 1) (h'.set h.length (.lst (acc ++ ys))) (acc ++ ys))
    (he : ∀ h1 acc, P n h1 acc → h1[h.length]? = some (.lst acc) → src h1 n = .stop) (hb : n ≤ 16777216) : ∃ h' acc', lcL src tg tst el env h.length most 0 (h ++ [.lst []]) = .ok (.ref h.length) h' ∧ h'[h.length]? = some (.lst acc') ∧ acc'.length ≤ n ∧ P n h' acc' :=
  lc_go n it P hs he hb n 0 most _ _ (by omega) (by rw [most_eq]; omega) (Nat.le_refl _) (by simp) h0
/-! ### what is walked -/
theorem fix_item {xs : List D} {h : Hd} {i : Nat} (hi : i < xs.length) : fixS xs h i = .item (xs.getD i .non) := by
  unfold fixS
  rw [List.getD_eq_getElem?_getD, List.getElem?_eq_getElem hi]
  rfl
theorem fix_stop {xs : List D} {h : Hd} : fixS xs h xs.length = .stop := by
  unfold fixS
  rw [List.getElem?_eq_none (Nat.le_refl _)]
theorem live_item {xs : List D} {h : Hd} {n i : Nat} (e : h[n]? = some (.lst xs) ∨ h[n]? = some (.fro xs)) (hi : i < xs.length) : liveS n h i = .item (xs.getD i .non) := by
  unfold liveS
  rcases e with e | e <;> rw [e] <;> exact fix_item hi
theorem live_stop {xs : List D} {h : Hd} {n : Nat} (e : h[n]? = some (.lst xs) ∨ h[n]? = some (.fro xs)) : liveS n h xs.length = .stop := by
  unfold liveS
  rcases e with e | e <;> rw [e] <;> exact fix_stop
theorem rng_item {lo c : Int} {n i : Nat} {h : Hd} (hi : i < n) : rngS lo n c h i = .item (.int (lo + (i : Nat) * c)) := by
  unfold rngS
  rw [if_pos hi]
theorem rng_stop {lo c : Int} {n : Nat} {h : Hd} : rngS lo n c h n = .stop := by
  unfold rngS
  rw [if_neg (Nat.lt_irrefl _)]
theorem enm_item {s : Src} {h : Hd} {i : Nat} {d : D} (e : s h i = .item d) : enmS s h i = .item (.tup [.int (i : Nat), d]) := by
  unfold enmS
  rw [e]
theorem enm_stop {s : Src} {h : Hd} {i : Nat} (e : s h i = .stop) : enmS s h i = .stop := by
  unfold enmS
  rw [e]
/-! ### data -/
def dI (n : Int) : D := .int n
theorem ints_map : ∀ ns : List Int, intsD (ns.map .int) = some ns
  | [] => rfl
  | n :: r => by
    rw [List.map_cons, intsD, ints_map r]
theorem bools_map : ∀ ns : List Bool, boolsD (ns.map .bl) = some ns
  | [] => rfl
  | n :: r => by
    rw [List.map_cons, boolsD, bools_map r]
theorem toP_map {A : Type} {f : A → D} {g : A → PyData} {n : Nat} {h : Hd} : ∀ l : List A, (∀ a ∈ l, toP n h (f a) = some (g a)) → (l.map f).mapM (toP n h) = some (l.map g)
  | [], _ => rfl
  | a :: l, e => by
    rw [List.map_cons, List.mapM_cons, e a (List.mem_cons_self ..), toP_map l fun b hb => e b (List.mem_cons_of_mem _ hb)]
    rfl
theorem toP_ints {n : Nat} {h : Hd} (l : List Int) : (l.map D.int).mapM (toP (n + 1) h) = some (l.map PyData.int) := toP_map l fun _ _ => rfl
theorem eqv_ints : ∀ l m : List Int, PyData.eqvAll (l.map .int) (m.map .int) = decide (l = m)
  | [], [] => rfl
  | [], _ :: _ => rfl
  | _ :: _, [] => rfl
  | a :: l, b :: m => by
    rw [List.map_cons, List.map_cons, PyData.eqvAll, eqv_ints l m, PyData.eqv]
    rw [Bool.eq_iff_iff]
    simp
theorem eqv_lists : ∀ l m : List (List Int), PyData.eqvAll (l.map fun x => .tuple (x.map .int)) (m.map fun x => .tuple (x.map .int)) = decide (l = m)
  | [], [] => rfl
  | [], _ :: _ => rfl
  | _ :: _, [] => rfl
  | a :: l, b :: m => by
    rw [List.map_cons, List.map_cons, PyData.eqvAll, eqv_lists l m, PyData.eqv, eqv_ints]
    rw [Bool.eq_iff_iff]
    simp
theorem lay_ints : ∀ l : List Int, PyData.canLayAll0 (l.map .int) = true
  | [] => rfl
  | a :: l => by
    rw [List.map_cons, PyData.canLayAll0, lay_ints l]
    rfl
theorem dep_ints : ∀ l : List Int, PyData.depthAll (l.map .int) = 0
  | [] => rfl
  | a :: l => by
    rw [List.map_cons, PyData.depthAll, dep_ints l]
    rfl
theorem lay_lists : ∀ l : List (List Int), PyData.canLayAll0 (l.map fun x => .tuple (x.map .int)) = true
  | [] => rfl
  | a :: l => by
    rw [List.map_cons, PyData.canLayAll0, lay_lists l, PyData.canLay0, lay_ints]
    rfl
theorem dep_lists : ∀ l : List (List Int), PyData.depthAll (l.map fun x => .tuple (x.map .int)) ≤ 1
  | [] => Nat.zero_le _
  | a :: l => by
    rw [List.map_cons, PyData.depthAll, PyData.depth, dep_ints]
    have := dep_lists l
    omega
/-! ### texts of data -/
mutual
def nod : PyData → Nat
  | .list xs => nods xs + 1
  | .tuple xs => nods xs + 1
  | .str _ => 16777216
  | .dict _ => 16777216
  | .none => 1
  | .bool _ => 1
  | .int _ => 1
def nods : List PyData → Nat
  | [] => 0
  | d :: r => nod d + nods r
end
theorem lt_len (ts : List Str) : (listText ts).length ≤ (ts.map (·.length)).sum + ts.length * 2 + 2 := by
  have h : ∀ (ts : List Str) (k : Nat) (acc : Str), (textFrom k acc ts).length ≤ acc.length + (ts.map (·.length)).sum + ts.length * 2 := by
    intro ts
    induction ts with
    | nil => intro k acc; show acc.length ≤ _; simp
    | cons t r ih =>
      intro k acc
      have := ih (k + 1) (acc ++ (if k > 0 then ", " else "" : String) ++ t)
      have e : (textFrom k acc (t :: r)) = textFrom (k + 1) (acc ++ (if k > 0 then ", " else "" : String) ++ t) r := rfl
      rw [e]
      refine Nat.le_trans this ?_
      rw [Str.length_append, Str.length_append, List.map_cons, List.sum_cons, List.length_cons]
      have : (Str.ofString (if k > 0 then ", " else "" : String)).length ≤ 2 := by
        split
        · exact Nat.le_refl 2
        · exact Nat.zero_le _
      omega
  unfold listText
  rw [Str.length_append]
  have e1 : (Str.ofString "]").length = 1 := rfl
  have := h ts 0 "["
  have e2 : (Str.ofString "[").length = 1 := rfl
  rw [e1]
  omega
theorem tt_len (ts : List Str) : (tupleText ts).length ≤ (ts.map (·.length)).sum + ts.length * 2 + 3 := by
  unfold tupleText
  rw [Str.length_append, Str.length_append]
  have h1 := StrLaws.join_length_le ", " ts
  have e1 : (Str.ofString ", ").length = 2 := rfl
  have e2 : (Str.ofString "(").length = 1 := rfl
  have e3 : (Str.ofString (if ts.length == 1 then ",)" else ")" : String)).length ≤ 2 := by
    split
    · exact Nat.le_refl 2
    · exact Nat.le_succ 1
  rw [e1] at h1
  rw [e2]
  omega
mutual
theorem shown_le : ∀ d : PyData, d.showable = true → nod d < 16777216 → d.shown.length + 2 ≤ 1925 * nod d
  | .none, _, _ => by unfold PyData.shown nod; decide
  | .bool b, _, _ => by unfold PyData.shown nod; cases b <;> decide
  | .int i, h, _ => by
    have := int_text_len_1921 (i := i) (by simpa [PyData.showable] using h)
    unfold PyData.shown nod
    omega
  | .str x, _, h => by unfold nod at h; omega
  | .dict x, _, h => by unfold nod at h; omega
  | .list xs, h, hn => by
    unfold nod at hn ⊢
    unfold PyData.shown
    have := shownAll_le xs (by simpa [PyData.showable] using h) (by omega)
    have := lt_len (PyData.shownAll xs)
    omega
  | .tuple xs, h, hn => by
    unfold nod at hn ⊢
    unfold PyData.shown
    have := shownAll_le xs (by simpa [PyData.showable] using h) (by omega)
    have := tt_len (PyData.shownAll xs)
    omega
theorem shownAll_le : ∀ ds : List PyData, PyData.showableAll ds = true → nods ds < 16777216 → ((PyData.shownAll ds).map (·.length)).sum + (PyData.shownAll ds).length * 2 ≤ 1925 * nods ds
  | [], _, _ => by unfold PyData.shownAll nods; simp
  | d :: r, h, hn => by
    rw [PyData.showableAll, Bool.and_eq_true] at h
    unfold nods at hn ⊢
    unfold PyData.shownAll
    have h1 := shown_le d h.1 (by omega)
    have h2 := shownAll_le r h.2 (by omega)
    rw [List.map_cons, List.sum_cons, List.length_cons]
    omega
end
theorem repOk_of {d : PyData} (h : d.showable = true) (h2 : d.hasDict = false) (h3 : d.depth ≤ 60) (h4 : nod d ≤ 8000) : repOk d = true := by
  have := shown_le d h (by omega)
  unfold repOk
  rw [h, h2, decide_eq_true h3, decide_eq_true (show d.shown.length ≤ 16777216 by omega)]
  rfl
theorem log_lt {i : Int} {k : Nat} (h : i.natAbs < 2 ^ k) (hk : 0 < k) : i.natAbs.log2 < k := by
  by_cases h0 : i.natAbs = 0
  · rw [h0]; exact hk
  · exact (Nat.log2_lt h0).mpr h
theorem for_none {src : Src} {tg : Fg} {body : Fs} {env : En} {h : Hd} (e : src h 0 = .stop) : forL src tg body most 0 env h = .nx env h := by
  obtain ⟨m, hm⟩ : ∃ m, most = m + 1 := ⟨1099511627775, by rw [most_eq]⟩
  rw [hm]
  exact forL_stop e
theorem sFor_ok {it : Fi} {tg : Fg} {body : Fs} {env : En} {h h1 : Hd} {src : Src} (e : it env h = .ok src h1) : sFor it tg body env h = forL src tg body most 0 env h1 := by
  unfold sFor
  rw [e]
theorem eLc_ok {it : Fi} {tg : Fg} {tst : Ft} {el : Fe} {vs : List Nat} {env : En} {h h1 : Hd} {src : Src} (e : it env h = .ok src h1) : eLc it tg tst el vs env h = lcL src tg tst el (wipeE env vs) h1.length most 0 (h1 ++ [.lst []]) := by
  unfold eLc
  rw [e]
theorem rng1_ok {fa : Fa} {env : En} {h h1 : Hd} {j : Int} (e : fa env h = .ok [.int j] h1) (e1 : rngOk j = true) : iRng1D fa env h = .ok (rngS 0 j.toNat 1) h1 := by
  unfold iRng1D
  rw [e]
  show (if rngOk j = true then Res.ok (rngS 0 j.toNat 1) h1 else .no) = _
  rw [if_pos e1]
theorem rng2_ok {fa : Fa} {env : En} {h h1 : Hd} {i j : Int} (e : fa env h = .ok [.int i, .int j] h1) (e1 : rngOk i = true) (e2 : rngOk j = true) : iRng2D fa env h = .ok (rngS i (j - i).toNat 1) h1 := by
  unfold iRng2D
  rw [e]
  show (if (rngOk i && rngOk j) = true then Res.ok (rngS i (j - i).toNat 1) h1 else .no) = _
  rw [e1, e2, Bool.and_self, if_pos rfl]
end Mi

set_option Elab.async false
set_option linter.all false
set_option maxRecDepth 100000
set_option maxHeartbeats 1000000
namespace Mi
open PySem PySem.Spec PyProof.Rows L2
theorem seq_nx {f g : Fs} {env env1 : En} {h h1 : Hd} (e : f env h = .nx env1 h1) : sSeq f g env h = g env1 h1 := by
  show (match f env h with
    | .nx env1 h1 => g env1 h1
    | r => r) = _
  rw [e]
theorem run_rt {m : Nat} {b : Fs} {ds : List D} {h h' : Hd} {d : D} (env : En) (e : b env h = .rt d h') (he : ds.map some ++ List.replicate (m - ds.length) none = env := by rfl) : runF m b ds h = .ok d h' := by
  unfold runF
  rw [he, e]
theorem run_nx {m : Nat} {b : Fs} {ds : List D} {h h' : Hd} {env' : En} (env : En) (e : b env h = .nx env' h') (he : ds.map some ++ List.replicate (m - ds.length) none = env := by rfl) : runF m b ds h = .ok .non h' := by
  unfold runF
  rw [he, e]
theorem ret_ok {fe : Fe} {env : En} {h h' : Hd} {d : D} (e : fe env h = .ok d h') : sRet fe env h = .rt d h' := by
  show (match fe env h with
    | .ok d h1 => SRes.rt d h1
    | .ex e h1 => .ex e env h1
    | .no => .no) = _
  rw [e]
theorem expr_ok {fe : Fe} {env : En} {h h' : Hd} {d : D} (e : fe env h = .ok d h') : sExpr fe env h = .nx env h' := by
  show (match fe env h with
    | .ok d h1 => SRes.nx env h1
    | .ex e h1 => .ex e env h1
    | .no => .no) = _
  rw [e]
theorem asg_ok {fe : Fe} {i : Nat} {env : En} {h h' : Hd} {d : D} (e : fe env h = .ok d h') (hi : i < env.length) : sAsg fe (gSet i) env h = .nx (env.set i (some d)) h' := by
  show (match fe env h with
    | .ok d h1 => (match gSet i d env h1 with
      | some (env1, h1) => SRes.nx env1 h1
      | none => .no)
    | .ex e h1 => .ex e env h1
    | .no => .no) = _
  rw [e]
  dsimp only [gSet]
  rw [if_pos hi]
theorem if_ok {c : Ft} {f g : Fs} {env : En} {h h' : Hd} {b : Bool} (e : c env h = .ok b h') : sIf c f g env h = (if b = true then f else g) env h' := by
  show (match c env h with
    | .ok d h1 => (if d = true then f else g) env h1
    | .ex e h1 => .ex e env h1
    | .no => .no) = _
  rw [e]
theorem call_ok {F : List D → Hd → Res D} {fa : Fa} {env : En} {h h1 : Hd} {ds : List D} (e : fa env h = .ok ds h1) : eCall F fa env h = F ds h1 := by
  show (fa env h).bind F = _
  rw [e]
  rfl
theorem callK_ok {F : List D → Hd → Res D} {g : List D → List D → List D} {fa fk : Fa} {env : En} {h h1 h2 : Hd} {ds ws : List D} (e : fa env h = .ok ds h1) (e2 : fk env h1 = .ok ws h2) : eCallK F g fa fk env h = F (g ds ws) h2 := by
  show (fa env h).bind (fun ds h1 => (fk env h1).bind fun ws h2 => F (g ds ws) h2) = _
  rw [e]
  show (fk env h1).bind (fun ws h2 => F (g ds ws) h2) = _
  rw [e2]
  rfl
theorem cons_ok {f : Fe} {g : Fa} {env : En} {h h1 h2 : Hd} {x : D} {xs : List D} (e : f env h = .ok x h1) (e2 : g env h1 = .ok xs h2) : aCons f g env h = .ok (x :: xs) h2 := by
  show (f env h).bind (fun x h1 => (g env h1).bind fun xs h2 => .ok (x :: xs) h2) = _
  rw [e]
  show (g env h1).bind (fun xs h2 => .ok (x :: xs) h2) = _
  rw [e2]
  rfl
theorem op_ok {g : D → D → Hd → Res D} {fa fb : Fe} {env : En} {h h1 h2 : Hd} {x y : D} (e : fa env h = .ok x h1) (e2 : fb env h1 = .ok y h2) : eOp g fa fb env h = g x y h2 := by
  show (fa env h).bind (fun x h1 => (fb env h1).bind fun y h2 => g x y h2) = _
  rw [e]
  show (fb env h1).bind (fun y h2 => g x y h2) = _
  rw [e2]
  rfl
theorem tOf_ok {f : Fe} {env : En} {h h' : Hd} {b : Bool} (e : f env h = .ok (.bl b) h') : tOf f env h = .ok b h' := by
  show (f env h).bind toB = _
  rw [e]
  rfl
/-! ### equality of data -/
theorem deep_ok {x y : D} {h : Hd} {k : Bool → Bool} {d e : PyData} (hx : toP maxP h x = some d) (hy : toP maxP h y = some e) (s1 : SeqAt.shaped d = true) (s2 : SeqAt.shaped e = true) : eqDeep x y h k = .ok (.bl (k (PyData.eqv d e))) h := by
  unfold eqDeep
  rw [hx, hy]
  show (if (SeqAt.shaped d && SeqAt.shaped e) = true then Res.ok (D.bl (k (PyData.eqv d e))) h else .no) = _
  rw [s1, s2]
  rfl
theorem eqB_ref {m n : Nat} {h : Hd} {k : Bool → Bool} : eqB (.ref m) (.ref n) h k = eqDeep (.ref m) (.ref n) h k := rfl
theorem eqB_tup {m n : List D} {h : Hd} {k : Bool → Bool} : eqB (.tup m) (.tup n) h k = eqDeep (.tup m) (.tup n) h k := rfl
theorem toP_lst {n r : Nat} {h : Hd} {l : List Int} (e : h[r]? = some (.lst (l.map .int))) : toP (n + 2) h (.ref r) = some (.list (l.map .int)) := by
  unfold toP
  rw [e]
  show ((l.map D.int).mapM (toP (n + 1) h)).map PyData.list = _
  rw [toP_ints]
  rfl
theorem toP_tup {n : Nat} {h : Hd} {l : List Int} : toP (n + 2) h (.tup (l.map .int)) = some (.tuple (l.map .int)) := by
  unfold toP
  rw [toP_ints]
  rfl
theorem sh_list (l : List Int) : SeqAt.shaped (.list (l.map .int)) = true := by
  unfold SeqAt.shaped
  rw [PyData.canLay0, lay_ints, PyData.depth, dep_ints]
  rfl
theorem sh_tup (l : List Int) : SeqAt.shaped (.tuple (l.map .int)) = true := by
  unfold SeqAt.shaped
  rw [PyData.canLay0, lay_ints, PyData.depth, dep_ints]
  rfl
theorem eqv_list (l m : List Int) : PyData.eqv (.list (l.map .int)) (.list (m.map .int)) = decide (l = m) := by rw [PyData.eqv, eqv_ints]
theorem eqv_tup (l m : List Int) : PyData.eqv (.tuple (l.map .int)) (.tuple (m.map .int)) = decide (l = m) := by rw [PyData.eqv, eqv_ints]
theorem eq_lists {r t : Nat} {h : Hd} {l m : List Int} {k : Bool → Bool} (e : h[r]? = some (.lst (l.map .int))) (e2 : h[t]? = some (.lst (m.map .int))) : eqB (.ref r) (.ref t) h k = .ok (.bl (k (decide (l = m)))) h := by
  rw [eqB_ref, deep_ok (toP_lst (n := 22) e) (toP_lst (n := 22) e2) (sh_list l) (sh_list m), eqv_list]
theorem eq_tups {h : Hd} {l m : List Int} {k : Bool → Bool} : eqB (.tup (l.map .int)) (.tup (m.map .int)) h k = .ok (.bl (k (decide (l = m)))) h := by
  rw [eqB_tup, deep_ok (toP_tup (n := 22)) (toP_tup (n := 22)) (sh_tup l) (sh_tup m), eqv_tup]
/-! ### repr -/
theorem repr_ok {x : D} {h : Hd} {d : PyData} (e : toP maxP h x = some d) (ok : repOk d = true) : gRepr [x] h = .ok (.str d.shown) h := by
  unfold gRepr
  dsimp only
  rw [e]
  dsimp only
  rw [if_pos ok]
theorem repr_int {i : Int} {h : Hd} (hi : i.natAbs.log2 < 1920) : gRepr [.int i] h = .ok (.str (PyData.int i).shown) h :=
  repr_ok (d := .int i) rfl (repOk_of (by simpa [PyData.showable] using hi) (by simp [PyData.hasDict]) (by simp [PyData.depth]) (by simp [nod]))
end Mi

set_option Elab.async false
set_option linter.all false
set_option maxRecDepth 100000
set_option maxHeartbeats 2000000
namespace Mi
open PySem PySem.Spec PyProof.Rows L2
/-! ### several clauses that bind the exception -/
/-- a clause's wish: slot i holds the exception while the suite runs, and is empty behind it -/
def endsGone (i : Nat) (D : Ends) : Ends := { nx := fun σ' H' => D.nx (σ'.set i none) H', rt := D.rt, bk := fun σ' H' => D.bk (σ'.set i none) H', ct := fun σ' H' => D.ct (σ'.set i none) H' }
abbrev TsX := Addr → Value → Option Addr → TS
def wAll (K : PySem.W.Frag) (i : Nat) (Wo : WX) (D : Ends) : List (Value × TsX) → WX
  | [] => Wo
  | p :: r => fun cls d σ H => ∃ t, PySem.W.exmOne K cls p.1 = some t ∧
      (t = true → ∀ y, H y = none → p.2 y cls d (endsGone i D) (σ.set i (some (.ref y))) H) ∧ (t = false → wAll K i Wo D r cls d σ H)
inductive ClsOk (X : Cx) (m : Str) : List ExceptHandler → List (Value × TsX) → Prop
  | nil : ClsOk X m [] []
  | cons {x : Str} {c : Value} {ts : TsX} {s₀ : Stmt} {su : List Stmt} {q1 q2 : Pos} {hs : List ExceptHandler} {l : List (Value × TsX)} (hc : Names X x c)
      (go : ∀ (y : Addr) (oy : Obj) (cls : Value) (d : Option Addr) (pn : List (Addr × Obj)), Zc cls d oy → (∃ vs, oy.data = .fields vs) → PSs (X.suite y ((y, oy) :: pn)) (s₀ :: su) (ts y cls d)) (r : ClsOk X m hs l) :
      ClsOk X m (.ExceptHandler (some (.Name x q1)) (some m) (s₀ :: su) q2 :: hs) ((c, ts) :: l)
section
variable {X : Cx} {i : Nat} {m : Str} {body : List Stmt} {c0 : ExceptHandler} {cs : List ExceptHandler} {l : List (Value × TsX)} {pos : Pos} {tb : WX → TS} {Wo : WX}
theorem ps_try_all (stk : X.stack = X.env :: X.outer) (frm : X.env.frame = some X.env.locals) (nodup : X.N.Nodup) (at_ : X.N[i]? = some m) (loc : X.env.kindOf m = some .local) (tk : Takes X Wo)
    (hb : ∀ (W : WX) (pn : List (Addr × Obj)) (xe : Value → Shared → Prop), Takes (X.tr pn xe) W → PassesOwn (model X.prog X.w) X.A X.env xe → PSs (X.tr pn xe) body (tb W)) (ok_ : ClsOk X m (c0 :: cs) l) :
    PS X (.Try body (c0 :: cs) [] [] pos) (fun D σ H => tb (wAll X.K i Wo D l) D σ H) := by
  refine ⟨fun pins s σ H D inv want => ?_⟩
  have okX := inv.ok
  have frames : X.A.frames = some (X.env :: X.outer) := okX.frames.trans (congrArg some stk)
  refine wpAny_Try_except (wpAny_mono ((hb (wAll X.K i Wo D l) (X.pn ++ pins) (fun z s₁ => wpAny (model X.prog X.w) X.A (noteFrame z X.env) (fun _ s₂ => wpAny (model X.prog X.w) X.A (setFlight z none)
    (fun _ s₃ => wpAny (model X.prog X.w) X.A (handleBy z X.env (c0 :: cs)) (SP X pins D) X.xe s₃) X.xe s₂) X.xe s₁) (fun z s' thrown => ?_) PassesOwn.looking).run [] s σ H D (inv.toTry _) want) (fun fl s1 sp => ?_) (fun _ _ z => z))
  · obtain ⟨y, B, sI, _, τ, G, cls, d, rfl, J0, nb, up, sky, free, os, ag, wish⟩ := thrown
    have J : Inv X pins τ G sI := J0.ofTry okX
    have sky2 : Sky B (X.env :: X.outer) y (Zc cls d) X.env.locals s'.heap := stk ▸ sky
    show wpAny (model X.prog X.w) X.A (noteFrame (.ref y) X.env) _ _ _
    refine Sky.land Zc.steady frames frm sky2 fun k3 land3 up3 => ?_
    have K3 : Inv X pins τ G { s' with heap := k3 } := J.landed nb land3.1 (up.trans up3) os ag
    obtain ⟨oy, ws, get3, zc3, dat3⟩ := land3.there
    have apart : y ∉ frs (X.env :: X.outer) := fun mem => by
      obtain ⟨_, o', get', no⟩ := land3.2.2.1.mem mem
      rw [get3] at get'
      cases get'
      exact no _ dat3
    have nLoc : y ≠ X.env.locals := fun z => apart (List.mem_filterMap.mpr ⟨X.env, List.mem_cons_self, by rw [frm, z]⟩)
    have nFs : y ∉ X.fs := fun mem => by
      obtain ⟨e, he, q⟩ := List.mem_filterMap.mp mem
      exact apart (List.mem_filterMap.mpr ⟨e, List.mem_cons_of_mem _ he, q⟩)
    have U3 := K3.suite get3 dat3 free nLoc nFs
    have all : ∀ {hs : List ExceptHandler} {l2 : List (Value × TsX)}, ClsOk X m hs l2 → wAll X.K i Wo D l2 cls d τ G → wpAny (model X.prog X.w) X.A (handleBy (.ref y) X.env hs) (SP X pins D) X.xe { s' with heap := k3 } := by
      intro hs l2 ck
      induction ck with
      | nil =>
        intro wish2
        refine wpAny_handleBy_nil ?_
        obtain ⟨_, _, _, oe, vs, T, oT, ts', getE, zE, dE, one, hr⟩ := id land3
        unfold PySem.passOn
        refine wpAny_bind (wpAny_field getE dE one ?_)
        rw [if_neg (by simp : ¬ ((Value.ref T == Value.none) = true))]
        have last : wpAny (model X.prog X.w) X.A (setFlight (.ref y) X.env.frame) (fun _ s4 => wpAny (model X.prog X.w) X.A (throw (.ref y) : Sem Flow) (SP X pins D) X.xe s4) X.xe { s' with heap := k3 } := by
          rw [frm]
          refine HandSPX.setFlight_upZ land3 fun k4 hk4 up4 => wpAny_throw (tk _ _ ?_)
          exact ⟨y, B, sI, pins, τ, G, cls, d, rfl, J, nb, (up.trans up3).trans up4, .inr (.inr (stk.symm ▸ hk4)), free, os, ag, wish2⟩
        first
          | exact wpAny_bind (wpAny_pure (wpAny_bind last))
          | exact wpAny_bind last
      | @cons x c ts s₀ su q1 q2 hs2 l3 nm go r ih =>
        intro wish2
        obtain ⟨t, ex1, yes, no⟩ := wish2
        refine wpAny_handleBy_cons (codeAny_handlers_test ?_) (by intro q; cases q)
        have ty : PySem.W.Looks (model X.prog X.w) k3 (typeOf (.ref y)) cls := fun A Q E s k q => wpAny_typeOf_ref (k _ _ get3) (zc3.1.symm ▸ q)
        have named : ∀ {Q : Value → Shared → Prop} {E : Value → Shared → Prop}, Q c { s' with heap := k3 } → wpAny (model X.prog X.w) (X.A.mark (some (.ref y))) (eval (.Name x q1) X.env) Q E { s' with heap := k3 } := fun {Q E} q => by
          obtain ⟨g1, g2, g3 | ⟨g3, g4, g5⟩⟩ := nm
          · exact ld_glob (X := X.suite y ((y, oy) :: (X.pn ++ pins))) U3 g1 g3 q g2
          · exact ld_blt (X := X.suite y ((y, oy) :: (X.pn ++ pins))) U3 g1 g3 g4 q g5 g2
        refine named ((PySem.W.exm_one (M := model X.prog X.w) K3.kIn ty ex1).here ?_)
        cases t with
        | false => exact ih (no rfl)
        | true =>
          refine codeAny_handlers_suite_as (HandSPX.lands_againZ land3 fun k4 land4 up4 => ?_)
          have K4 : Inv X pins τ G { s' with heap := k4 } := J.landed nb land4.1 ((up.trans up3).trans up4) os ag
          obtain ⟨oy4, ws4, get4, zc4, dat4⟩ := land4.there
          refine store_ok (X := X.suite y ((y, oy4) :: (X.pn ++ pins))) (v := .ref y) (K4.suite get4 dat4 free nLoc nFs) nodup at_ (.inl loc) rfl (fun s5 U5 => ?_) (.inr loc)
          refine wpAny_mono ((go y oy4 cls d (X.pn ++ pins) zc4 ⟨_, dat4⟩).run [] s5 _ G _ U5 (yes rfl y free)) (fun fl s6 sp6 => ?_) (fun _ _ z => False.elim z)
          have wipe : ∀ {ρ : St} {H6 : Hp} {Q : Shared → Prop}, Inv (X.suite y ((y, oy4) :: (X.pn ++ pins))) [] ρ H6 s6 → (∀ s7, Inv X pins (ρ.set i none) H6 s7 → Q s7) →
              wpAny (model X.prog X.w) X.A (do bindName X.env m .none; unbindBehindTheSuite X.env m q2) (fun _ s7 => Q s7) X.xe s6 := fun U6 hq => gone_ok (U6.unsuite okX) nodup at_ loc hq
          cases fl with
          | ret u =>
            obtain ⟨v6, ρ, H6, U6, r6, w6⟩ := sp6
            exact wipe U6 fun s7 J7 => ⟨_, _, _, J7, r6, w6⟩
          | next =>
            obtain ⟨ρ, H6, U6, w6⟩ := sp6
            exact wipe U6 fun s7 J7 => ⟨_, _, J7, w6⟩
          | brk =>
            obtain ⟨ρ, H6, U6, w6⟩ := sp6
            exact wipe U6 fun s7 J7 => ⟨_, _, J7, w6⟩
          | cont =>
            obtain ⟨ρ, H6, U6, w6⟩ := sp6
            exact wipe U6 fun s7 J7 => ⟨_, _, J7, w6⟩
    exact all ok_ wish
  · cases fl with
    | ret u =>
      obtain ⟨v, τ, G, J, r, w⟩ := sp
      exact ⟨v, τ, G, J.ofTry okX, r, w⟩
    | next =>
      obtain ⟨τ, G, J, w⟩ := sp
      exact wpAny_execs_nil ⟨τ, G, J.ofTry okX, w⟩
    | brk =>
      obtain ⟨τ, G, J, w⟩ := sp
      exact ⟨τ, G, J.ofTry okX, w⟩
    | cont =>
      obtain ⟨τ, G, J, w⟩ := sp
      exact ⟨τ, G, J.ofTry okX, w⟩
end
end Mi

set_option Elab.async false
set_option linter.all false
set_option maxRecDepth 100000
set_option maxHeartbeats 2000000
namespace Mi
open PySem PySem.Spec PyProof.Rows L2
/-! ### try with several clauses, as data -/
abbrev Cla := (Str → Option Bool) × (Nat → Fs)
/-- the clause that takes an exception of the class c; some none: no clause does -/
def pickC (c : Str) : List Cla → Option (Option (Nat → Fs))
  | [] => some none
  | (mt, f) :: r => match mt c with
    | some true => some (some f)
    | some false => pickC c r
    | none => none
@[simp] def sTryAll (i : Nat) (body : Fs) (cl : List Cla) : Fs := fun env h => match body env h with
  | .ex e env1 h1 => (match pickC e.c cl with
    | some (some f) => sAft i (f (fresh env1 h1 e) (env1.set i (some (.exc (fresh env1 h1 e) e.c e.f e.v))) h1)
    | some none => .ex e env1 h1
    | none => .no)
  | r => r
/-- the clauses of a text and their functions -/
inductive DCls (X : Cx) (R : Rx) (m : Str) : List ExceptHandler → List (Value × Cla) → Prop
  | nil : DCls X R m [] []
  | cons {x : Str} {c : Value} {mt : Str → Option Bool} {fs : Nat → Fs} {s₀ : Stmt} {su : List Stmt} {q1 q2 : Pos} {hs : List ExceptHandler} {l : List (Value × Cla)} (hc : Names X x c)
      (hmt : ∀ c' b, mt c' = some b → ∀ C, X.mg c' = some (.ref C) → PySem.W.exmOne X.K (.ref C) c = some b)
      (hsu : ∀ (a : Addr) (oe : Obj) (cls : Value) (dd : Addr) (pn : List (Addr × Obj)) (n : Nat), Zc cls (some dd) oe → (∃ vs, oe.data = .fields vs) → DSs (X.suite a ((a, oe) :: pn)) (R.put n (a, cls, dd)) W0 (s₀ :: su) (fs n)) (r : DCls X R m hs l) :
      DCls X R m (.ExceptHandler (some (.Name x q1)) (some m) (s₀ :: su) q2 :: hs) ((c, mt, fs) :: l)
def tsOf (R : Rx) (p : Value × Cla) : Value × TsX := (p.1, fun a cls d D σ H => ∃ dd n, d = some dd ∧ tS (R.put n (a, cls, dd)) W0 (p.2.2 n) D σ H)
section
variable {X : Cx} {R : Rx} {W : WX} {i : Nat} {m : Str} {body : List Stmt} {c0 : ExceptHandler} {cs : List ExceptHandler} {l : List (Value × Cla)} {pos : Pos} {fb : Fs}
theorem DCls.ok {hs : List ExceptHandler} (d : DCls X R m hs l) : ClsOk X m hs (l.map (tsOf R)) := by
  induction d with
  | nil => exact .nil
  | cons hc hmt hsu r ih =>
    refine .cons hc (fun a oe cls d pn hz hv => ⟨fun pins s σ H D I h => ?_⟩) ih
    obtain ⟨dd, n, rfl, q⟩ := h
    exact (hsu a oe cls dd pn n hz hv).run pins s σ H D I q
theorem ds_tryAll (hs : X.stack = X.env :: X.outer) (hf : X.env.frame = some X.env.locals) (hN : X.N.Nodup) (hR : R.mg = X.mg) (hR0 : ∀ n, R.xa n = none) (tk : Takes X W)
    (hb : ∀ (W' : WX) (pn : List (Addr × Obj)) (xe : Value → Shared → Prop), Takes (X.tr pn xe) W' → PassesOwn (model X.prog X.w) X.A X.env xe → DSs (X.tr pn xe) R W' body fb)
    (hc : DCls X R m (c0 :: cs) l) (hi : X.N[i]? = some m := by rfl) (hln : X.env.kindOf m = some .local := by rfl) :
    DS X R W (.Try body (c0 :: cs) [] [] pos) (sTryAll i fb (l.map (·.2))) := by
  refine ⟨fun pins s σ H D I h => (ps_try_all (tb := fun W' => tS R W' fb) hs hf hN hi hln tk hb hc.ok).run pins s σ H D I ?_⟩
  obtain ⟨α, env, hp, re, rh, fi⟩ := h
  refine ⟨α, env, hp, re, rh, ?_⟩
  unfold sTryAll at fi
  cases er : fb env hp with
  | nx env1 h1 => rw [er] at fi; exact fi
  | rt d h1 => rw [er] at fi; exact fi
  | bk d h1 => rw [er] at fi; exact fi
  | ct d h1 => rw [er] at fi; exact fi
  | no => rw [er] at fi; exact fi
  | ex e env1 h1 =>
    rw [er] at fi
    dsimp only at fi
    intro α1 H1 σ1 cls dd x1 rh1 re1 rx
    have key : ∀ {hs : List ExceptHandler} {l : List (Value × Cla)}, DCls X R m hs l → FinS R W α H D (match pickC e.c (l.map (·.2)) with
        | some (some f) => sAft i (f (fresh env1 h1 e) (env1.set i (some (.exc (fresh env1 h1 e) e.c e.f e.v))) h1)
        | some none => .ex e env1 h1
        | none => .no) → wAll X.K i W D (l.map (tsOf R)) cls (some dd) σ1 H1 := by
      intro hs l dc
      induction dc with
      | nil => exact fun fi => fi α1 H1 σ1 cls dd x1 rh1 re1 rx
      | @cons x c mt fs s₀ su q1 q2 hs l hc hmt hsu r ih =>
        intro fi
        obtain ⟨C, v', g1, g2, g3, g4⟩ := rx
        cases em : mt e.c with
        | none =>
          rw [show pickC e.c (((c, mt, fs) :: l).map (·.2)) = none by show (match mt e.c with | some true => some (some fs) | some false => _ | none => none) = none; rw [em]] at fi
          exact (show False from fi).elim
        | some b =>
          refine ⟨b, by rw [g2]; exact hmt _ _ em C (by rw [← hR]; exact g1), fun hb a ha => ?_, fun hb => ?_⟩
          · subst hb
            rw [show pickC e.c (((c, mt, fs) :: l).map (·.2)) = some (some fs) by show (match mt e.c with | some true => some (some fs) | some false => _ | none => none) = _; rw [em]] at fi
            refine ⟨dd, fresh env1 h1 e, rfl, α1, _, h1, ?_, rh1.up (by unfold fresh; omega), (fin_aft (hR0 _) fi).mono x1⟩
            refine RelEnv.set (re1.up (by unfold fresh; omega)) ?_
            unfold RelD
            intro a' cls' dd' hx
            rw [put_eq] at hx
            cases hx
            exact ⟨rfl, C, v', g1, g2, g3, g4.up (by unfold fresh; omega)⟩
          · subst hb
            refine ih ?_
            rwa [show pickC e.c (((c, mt, fs) :: l).map (·.2)) = pickC e.c (l.map (·.2)) by show (match mt e.c with | some true => some (some fs) | some false => pickC e.c (List.map (fun p : Value × Cla => p.2) l) | none => none) = _; rw [em]] at fi
    exact key hc fi
end
end Mi

set_option Elab.async false
set_option linter.all false
set_option maxRecDepth 100000
set_option maxHeartbeats 2000000
namespace Mi
open PySem PySem.Spec PyProof.Rows L2
/-! ### a def run once, at one state, where no guard stands -/
section
variable {CX : CXT} {P : Program} {w : World} {K : PySem.W.Frag} {mg : Str → Option Value} {base : Heap} {k : Nat} {f : Addr} {nm ql : Str} {ar : Arguments} {bo : List Stmt} {sco : Scope}
variable {dV kV doc pm cdv ct oc : Value} {an od : Option Addr} {osl : Array (Option Value)} {N ps : List Str}
theorem run_at (lk : K.lookup f = some ⟨oc, od, .func (PySem.W.fnOf nm ql ar bo sco dV kV doc pm an cdv ct), osl⟩) (code : PySem.W.codeIn K cdv ql = true) (S : FnScope N ps sco) {A : Around} {outer : List Env} {s : Shared} {H : Hp} {args : Args} {us : List Value} {vs : List V} {Q : VK} {E : XK}
    (hr : RoomG (k + 1) A) (e0 : Env0 P w K mg base A outer s H) (hb : BindsTo s (PySem.W.fnOf nm ql ar bo sco dV kV doc pm an cdv ct) args (ps.zip us)) (r : Vals vs us) (hl : vs.length = ps.length)
    (body : RoomG k (A.deeper (envOfC ql sco s.heap.objs.size f cdv)) → ∃ t, PSs (cxOf CX P w K mg base N ql sco f cdv A outer s H E) bo t ∧ t { nx := fun _ H' => Q .non H', rt := Q } (start N vs) H) :
    codeAny (model P w) A (.call (.ref f) args) (CR CX outer P w H s Q E) s := by
  have inK : K.In s.heap := e0.mod.kin.keeps fun b o e => (e0.bs b o e).1
  have nolim : s.heap.NoLimit := e0.mod.nolimit.keeps fun b o e => (e0.bs b o e).1
  have kinds : ∀ y ∈ ps.zip us, sco.names.lookup y.1 = some .local ∨ (sco.names.lookup y.1 = some .cell ∧ ((cellsFrom (s.heap.objs.size + 1) sco.names []).lookup y.1).isSome = true) := fun ⟨n, v⟩ hy =>
    (S.par n (List.of_mem_zip hy).1).imp id fun q => ⟨q, PySem.W.cellsFrom_some _ _ _ (.inl q)⟩
  refine codeAny_call_function hr.rm.depth (inK _ _ lk) rfl S.co S.gen rfl (PySem.W.codeRec_of inK code) (hb _ _ _ _ (wpAny_newFunctionEnv_cells S.kind kinds fun env he s1 x => ?_))
  subst he
  obtain ⟨t, ht, hq⟩ := body (hr.deeper _)
  refine ⟨nolim.keeps x.toInCall.keep, codeAny_func (wpAny_mono (ht.run [] s1 (start N vs) H _ (inv_start S hr.rm.hd e0 hl r x) hq) (fun fl s' hs => ?_) fun e s' hs => hs)⟩
  cases fl with
  | next =>
    obtain ⟨σ', H', J, q⟩ := hs
    exact ⟨.non, H', J.os, J.bare, J.base, J.hok, rfl, q⟩
  | ret u =>
    obtain ⟨v, σ', H', J, rv, q⟩ := hs
    exact ⟨v, H', J.os, J.bare, J.base, J.hok, rv, q⟩
  | cont => obtain ⟨_, _, _, q⟩ := hs; exact False.elim q
  | brk => obtain ⟨_, _, _, q⟩ := hs; exact False.elim q
end
/-! ### what holds by K, mg, xa alone -/
section
variable {R R' : Rx} {α : List Addr} {H : Hp} (hK : R'.K = R.K) (hm : R'.mg = R.mg) (hx : R'.xa = R.xa)
mutual
theorem RelD.same (hK : R'.K = R.K) (hm : R'.mg = R.mg) (hx : R'.xa = R.xa) : ∀ {d : D} {v : V}, RelD R α H d v → RelD R' α H d v
  | .non, _, h => by unfold RelD at h ⊢; exact h
  | .bl _, _, h => by unfold RelD at h ⊢; exact h
  | .int _, _, h => by unfold RelD at h ⊢; exact h
  | .str _, _, h => by unfold RelD at h ⊢; exact h
  | .tup xs, v, h => by
    unfold RelD at h ⊢
    obtain ⟨a, vs, h1, h2, h3⟩ := h
    exact ⟨a, vs, h1, by rw [hK]; exact h2, RelDs.same hK hm hx h3⟩
  | .ref n, v, h => by unfold RelD at h ⊢; exact h
  | .gl _, _, h => by unfold RelD at h ⊢; rw [hm]; exact h
  | .ty _, _, h => by unfold RelD at h ⊢; exact h
  | .exc m c f d, v, h => by
    unfold RelD at h ⊢
    rw [hx, hm]
    intro a cls dd q
    obtain ⟨h1, C, v', h2, h3, h4, h5⟩ := h a cls dd q
    exact ⟨h1, C, v', h2, h3, h4, RelD.same hK hm hx h5⟩
  | .lam _, _, h => by unfold RelD at h; exact h.elim
  | .exv c f d m, v, h => by
    unfold RelD at h ⊢
    rw [hm]
    obtain ⟨a, dd, t, C, v', h1, h2, h3, h6, h4, h5⟩ := h
    exact ⟨a, dd, t, C, v', h1, h2, h3, h6, h4, RelD.same hK hm hx h5⟩
theorem RelDs.same (hK : R'.K = R.K) (hm : R'.mg = R.mg) (hx : R'.xa = R.xa) : ∀ {ds : List D} {vs : List V}, RelDs R α H ds vs → RelDs R' α H ds vs
  | [], vs, h => by unfold RelDs at h ⊢; exact h
  | d :: ds, vs, h => by
    unfold RelDs at h ⊢
    obtain ⟨v, r, h1, h2, h3⟩ := h
    exact ⟨v, r, h1, RelD.same hK hm hx h2, RelDs.same hK hm hx h3⟩
end
theorem RelKs.same (hK : R'.K = R.K) (hm : R'.mg = R.mg) (hx : R'.xa = R.xa) : ∀ {ds : List (Key × D)} {vs : List (Key × V)}, RelKs R α H ds vs → RelKs R' α H ds vs
  | [], vs, h => by unfold RelKs at h ⊢; exact h
  | (k, d) :: ds, vs, h => by
    unfold RelKs at h ⊢
    obtain ⟨v, r, h1, h2, h3⟩ := h
    exact ⟨v, r, h1, RelD.same hK hm hx h2, RelKs.same hK hm hx h3⟩
theorem RelO.same (hK : R'.K = R.K) (hm : R'.mg = R.mg) (hx : R'.xa = R.xa) {o : Ob} {a : Addr} (h : RelO R α H o a) : RelO R' α H o a := by
  cases o with
  | lst xs => obtain ⟨vs, q, t⟩ := h; exact ⟨vs, q, t.same hK hm hx⟩
  | fro xs => obtain ⟨vs, ob, q, t⟩ := h; exact ⟨vs, ob, q, t.same hK hm hx⟩
  | dic xs => obtain ⟨vs, q, t⟩ := h; exact ⟨vs, q, t.same hK hm hx⟩
theorem RelX.same (hK : R'.K = R.K) (hm : R'.mg = R.mg) (hx : R'.xa = R.xa) {e : Exn} {cls : Value} {dd : Addr} (h : RelX R α H e cls dd) : RelX R' α H e cls dd := by
  unfold RelX at h ⊢
  rw [hm]
  obtain ⟨C, v', h1, h2, h3, h4⟩ := h
  exact ⟨C, v', h1, h2, h3, h4.same hK hm hx⟩
theorem RH.same {h : Hd} (hK : R'.K = R.K) (hm : R'.mg = R.mg) (hx : R'.xa = R.xa) (hT : R'.T = R.T) (k : R'.kept α H) (r : RH R α h H) : RH R' α h H := ⟨r.len, r.nd, fun i o e => by
  obtain ⟨a, h1, h2⟩ := r.obj i o e
  exact ⟨a, h1, h2.same hK hm hx⟩, by rw [hT]; exact r.tab, k⟩
end
/-! ### a slot with a lambda -/
def Rx.lam (R : Rx) (f c' : Addr) (q : Str) (env : En) (σ : St) : Rx where
  K := R.K
  mg := R.mg
  xa := R.xa
  la := fun n => if n = 0 then some f else none
  T := R.T
  kept := fun α H => R.kept α H ∧ RelEnv R α H env σ ∧ H c' = some (LamX.CodeO c' q)
  mono := fun e h => ⟨R.mono e h.1, h.2.1.ext e, e.st _ _ h.2.2 (by unfold LamX.CodeO; trivial)⟩
section
variable {R : Rx} {α : List Addr} {H : Hp} {f c' : Addr} {q : Str} {env : En} {σ : St}
theorem RH.tolam {h : Hd} (r : RH R α h H) (e : RelEnv R α H env σ) (c : H c' = some (LamX.CodeO c' q)) : RH (R.lam f c' q env σ) α h H := RH.same (R := R) (R' := R.lam f c' q env σ) rfl rfl rfl rfl ⟨r.kp, e, c⟩ r
theorem RH.unlam {h : Hd} (r : RH (R.lam f c' q env σ) α h H) : RH R α h H := RH.same (R := R.lam f c' q env σ) (R' := R) rfl rfl rfl rfl r.kp.1 r
theorem RelD.tolam {d : D} {v : V} (r : RelD R α H d v) : RelD (R.lam f c' q env σ) α H d v := RelD.same (R := R) (R' := R.lam f c' q env σ) rfl rfl rfl r
theorem RelD.unlam {d : D} {v : V} (r : RelD (R.lam f c' q env σ) α H d v) : RelD R α H d v := RelD.same (R := R.lam f c' q env σ) (R' := R) rfl rfl rfl r
theorem RelX.tolam {e : Exn} {cls : Value} {dd : Addr} (r : RelX R α H e cls dd) : RelX (R.lam f c' q env σ) α H e cls dd := RelX.same (R := R) (R' := R.lam f c' q env σ) rfl rfl rfl r
theorem RelX.unlam {e : Exn} {cls : Value} {dd : Addr} (r : RelX (R.lam f c' q env σ) α H e cls dd) : RelX R α H e cls dd := RelX.same (R := R.lam f c' q env σ) (R' := R) rfl rfl rfl r
end
@[simp] def eThk (i : Nat) (th : Hd → Res D) : Fe := fun env h => match env[i]? with
  | some (some (.lam _)) => th h
  | _ => .no
section
variable {X : Cx} {R : Rx} {pins : List (Addr × Obj)} {σ : St} {H : Hp} {s : Shared} {env : En}
/-- the call of a lambda that the def got -/
theorem de_act {CXg : CXT} {Eg : XK} {Ng : List Str} {qg : Str} {sg : Scope} {g f c' : Addr} {cdg pm ctv : Value} {pr : Arguments} {bd : Expr} {sc : Scope} {k i : Nat} {a : Str} {pn : List (Addr × Obj)} {xe : Value → Shared → Prop} {W : WX} {fe : Fe} {p1 p2 : Pos}
    (I : Inv X pins σ H s) (L : LamX.LamS X.env.scope sc) (hf : s.heap.get? f = some (PySem.W.kla_obj "<lambda>" (X.env.qual ++ "<lambda>") pr bd sc (cloFrom X.env.cells sc.names []) pm c' ctv)) (hfn : H f = none) (hfr : f ∉ frs X.stack)
    (bnd : bindArgs (PySem.W.kla_fn "<lambda>" (X.env.qual ++ "<lambda>") pr bd sc (cloFrom X.env.cells sc.names []) pm (.ref c') ctv) ⟨[], []⟩ = pure [])
    (tk : Takes ((cxOf CXg X.prog X.w X.K X.mg X.base Ng qg sg g cdg X.A X.stack s H Eg).tr pn xe) W) (hCX : CXg = L2.CX X.prog X.w) (hr : RoomG (k + 1) (X.A.deeper (envOfC qg sg s.heap.objs.size g cdg)))
    (body : ∀ (A : Around) (outer : List Env) (s1 : Shared) (H1 : Hp) (E : XK), RoomG k (A.deeper (LamX.lamEnv X sc s1.heap.objs.size f c')) → DE (LamX.lamCx X A outer s1 H1 E sc f c') R (fun cls dd _ H => E cls dd H) bd fe)
    (hN : Ng[i]? = some a) (hv : Vis sg a) (hd : (a == ("__debug__" : Str)) = false) (hcd : (a == ("__classdict__" : Str)) = false) :
    DE ((cxOf CXg X.prog X.w X.K X.mg X.base Ng qg sg g cdg X.A X.stack s H Eg).tr pn xe) (R.lam f c' (X.env.qual ++ "<lambda>") env σ) W (.Call (.Name a p1) [] [] p2) (eThk i fun h => fe env h) := by
  subst hCX
  refine ⟨fun pinsZ sZ τ G Q IZ want => ?_⟩
  obtain ⟨α, envZ, hp, re, rh, fi⟩ := want
  have key : ∃ n, envZ[i]? = some (some (.lam n)) ∧ FinE (R.lam f c' (X.env.qual ++ "<lambda>") env σ) W α G τ (fe env hp) Q := by
    unfold eThk at fi
    split at fi
    · rename_i n q
      exact ⟨n, q, fi⟩
    · exact (show False from fi).elim
  obtain ⟨n, en, fi⟩ := key
  obtain ⟨v, hs, rs⟩ := re.2 i _ en
  obtain ⟨f2, la, ev⟩ := rs
  have ef : f2 = f := by
    have la : (if n = 0 then some f else none) = some f2 := la
    split at la
    · exact (Option.some.inj la).symm
    · cases la
  subst ev
  subst ef
  obtain ⟨kept, rel, co⟩ := rh.kp
  refine wpAny_Call_Name_kw (thn ((pe_var (pos := p1) (i := i) hN hv hd hcd).run pinsZ sZ τ G (fun u G1 => u = .ref f2 ∧ G1 = G) IZ ⟨.ref f2, hs, rfl, rfl⟩) fun u s1 got => ?_)
  obtain ⟨u1, G1, I1, r1, rfl, rfl⟩ := got
  obtain rfl : u = Value.ref f2 := r1
  have there : s1.heap.get? f2 = some (PySem.W.kla_obj "<lambda>" (X.env.qual ++ "<lambda>") pr bd sc (cloFrom X.env.cells sc.names []) pm c' ctv) := I1.base.keep f2 _ hf hfn hfr (fun z => nomatch (show f2 ∈ ([] : List Addr) from z))
  refine PySem.W.callWith_F0 ⟨_, _, _, _, there⟩ ?_
  have since : Un (frs X.stack) [] H G1 s.heap s1.heap := I1.base
  obtain ⟨⟨oc, vs, t, hoc, hdc, hvc⟩, _, _⟩ := I1.hok c' _ co
  have rc : codeAny (model X.prog X.w) (X.A.deeper (envOfC qg sg s.heap.objs.size g cdg)) (.call (.ref f2) ⟨[], []⟩) (CR (L2.CX X.prog X.w) (envOfC qg sg s.heap.objs.size g cdg :: X.stack) X.prog X.w G1 s1 Q (fun cls dd G2 => W cls dd τ G2)) s1 := by
    refine PySem.W.kla_callFunE hr.rm.depth there rfl L.co L.gen rfl ⟨c', oc, vs, t, rfl, hoc, hdc, hvc⟩ ?_
    rw [bnd]
    refine wpAny_pure (wpAny_newFunctionEnv (fun y hy => (L.own y hy).2) (fun y hy => absurd hy (by simp)) (fun h₁ hns hsb => ⟨I1.nolimit.fresh _ hsb, ?_⟩) L.kind)
    have kp : ∀ b o, s1.heap.get? b = some o → h₁.get? b = some o := fun b o e => hsb.extBut b o (Nat.ne_of_lt (Heap.lt_size e)) (Heap.get?_push_of_some _ e)
    have J := LamX.lam_start2 (E := fun cls dd G2 => W cls dd τ G2) (c' := c') (tk := s1.toks + ([] : List (Str × Value)).length) (f := f2) I L I1.env0 hr.rm.hd since hns kp
    refine PySem.W.kla_codeExpr (wpAny_mono ((body _ _ s1 G1 (fun cls dd G2 => W cls dd τ G2) (hr.deeper _)).run [] _ _ G1 Q J ?_) (fun v s' hq => ?_) fun e s' hq => hq)
    · refine ⟨α, env, hp, rel, rh.unlam, ?_⟩
      cases er : fe env hp with
      | no => rw [er] at fi; exact fi
      | ok d h2 =>
        rw [er] at fi
        exact fun α' H' v x rh2 rd => fi α' H' v x (rh2.tolam (rel.ext x) (x.st _ _ co (by unfold LamX.CodeO; trivial))) rd.tolam
      | ex e h2 =>
        rw [er] at fi
        exact fun α' H' cls dd x rh2 rx => fi α' H' cls dd x (rh2.tolam (rel.ext x) (x.st _ _ co (by unfold LamX.CodeO; trivial))) rx.tolam
    · obtain ⟨w', H', J', rv, q⟩ := hq
      exact ⟨w', H', J'.os, J'.bare, J'.base, J'.hok, rv, q⟩
  refine wpAny_call (codeAny_mono rc fun r s' hq => ?_)
  cases r with
  | error e => exact tk e s' (XE.of_call I1 (fun _ _ _ z => z) hq)
  | ok fl =>
    cases fl with
    | ret u => exact I1.after hq
    | next => exact False.elim hq
    | brk => exact False.elim hq
    | cont => exact False.elim hq
end
/-! ### a def that gets a lambda and calls it inside a try -/
structure ToldX (P : Program) (w : World) (K : PySem.W.Frag) (mg : Str → Option Value) (base : Heap) (d : He.DefD) (N : List Str) (a : Str) (k : Nat) (fb : (Hd → Res D) → Fs) : Prop where
  n0 : N[0]? = some a
  vis : Vis d.scope a
  nd : (a == ("__debug__" : Str)) = false
  ncd : (a == ("__classdict__" : Str)) = false
  fd : ∃ fd, FunD K d.name d.qual d.params d.body d.scope (d.dvs K) (d.kws K) (He.fAd K d.at_) fd
  bnd : ∀ fd, FunD K d.name d.qual d.params d.body d.scope (d.dvs K) (d.kws K) (He.fAd K d.at_) fd → ∀ (s : Shared) (u : Value), K.In s.heap → BindsTo s fd ⟨[u], []⟩ [(a, u)]
  sc : FnScope N [a] d.scope
  body : ∀ (cdv : Value) (A : Around) (outer : List Env) (s : Shared) (H : Hp) (E : XK) (la : Nat → Option Addr) (T : List (Addr × Str)) (kept : List Addr → Hp → Prop) (mono : ∀ {α α' : List Addr} {H H' : Hp}, Ext α H α' H' → kept α H → kept α' H') (th : Hd → Res D), RoomG k (A.deeper (envOfC d.qual d.scope s.heap.objs.size (He.fAd K d.at_) cdv)) →
    (∀ (W : WX) (pn : List (Addr × Obj)) (xe : Value → Shared → Prop) (p1 p2 : Pos), Takes ((cxOf (L2.CX P w) P w K mg base N d.qual d.scope (He.fAd K d.at_) cdv A outer s H E).tr pn xe) W →
      DE ((cxOf (L2.CX P w) P w K mg base N d.qual d.scope (He.fAd K d.at_) cdv A outer s H E).tr pn xe) ⟨K, mg, fun _ => none, la, T, kept, mono⟩ W (.Call (.Name a p1) [] [] p2) (eThk 0 th)) →
    DSs (cxOf (L2.CX P w) P w K mg base N d.qual d.scope (He.fAd K d.at_) cdv A outer s H E) ⟨K, mg, fun _ => none, la, T, kept, mono⟩ (fun cls dd _ H => E cls dd H) d.body (fb th)
/-- what the def makes of a lambda's reading -/
@[simp] def toldF (m : Nat) (fb : (Hd → Res D) → Fs) : (Hd → Res D) → Hd → Res D := fun th h => match fb th (some (.lam 0) :: List.replicate (m - 1) none) h with
  | .nx _ h' => .ok .non h'
  | .rt d h' => .ok d h'
  | .ex e _ h' => .ex e h'
  | _ => .no
@[simp] def eTold (F : (Hd → Res D) → Hd → Res D) (fe : Fe) : Fe := fun env h => F (fun h1 => fe env h1) h
section
variable {X : Cx} {W : WX} {Tt : List (Addr × Str)} {d : He.DefD} {N : List Str} {a x : Str} {k kt : Nat} {fb : (Hd → Res D) → Fs} {c P : Addr} {pr : Arguments} {bd : Expr} {sc : Scope} {fe : Fe} {p lpos pos : Pos}
theorem de_told (hF : ToldX X.prog X.w X.K X.mg X.base d N a kt fb) (hk : kt ≤ k + 1) (hr : RoomG (k + 2) X.A) (hg : Gl X x) (hm : X.mg x = some (.ref (He.fAd X.K d.at_))) (tk : Takes X W)
    (TB : LamX.TabB X.base X.mg c P) (hcode : X.env.code = .ref c) (hmT : (P, X.env.qual ++ "<lambda>") ∈ Tt) (hu : ∀ p ∈ Tt, p.1 = P → p.2 = X.env.qual ++ "<lambda>") (L : LamX.LamS X.env.scope sc) 
    (lam : ∀ (A : Around) (outer : List Env) (s : Shared) (H : Hp) (E : XK) (f c' : Addr), RoomG k (A.deeper (LamX.lamEnv X sc s.heap.objs.size f c')) → DE (LamX.lamCx X A outer s H E sc f c') (rx X.K X.mg Tt) (fun cls dd _ H => E cls dd H) bd fe)
    (hdef : defaultsOf pr X.env = ([], []) := by rfl) (bnd : ∀ (q : Str) (cl : List (Str × Addr)) (pm cv ctv : Value), bindArgs (PySem.W.kla_fn "<lambda>" q pr bd sc cl pm cv ctv) ⟨[], []⟩ = pure [] := by intros; rfl) (hdb : (x == ("__debug__" : Str)) = false := by decide) :
    DE X (rx X.K X.mg Tt) W (.Call (.Name x p) [.Lambda pr bd sc lpos] [] pos) (eTold (toldF N.length fb) fe) := by
  refine ⟨fun pins s σ H Q I want => ?_⟩
  obtain ⟨α, env, hp, re, rh, fi⟩ := want
  obtain ⟨fd, FD⟩ := hF.fd
  have hb := hF.bnd fd FD
  obtain ⟨oc, od, dV, kV, doc, pm, an, cdv, ct, osl, efd, lk, code, _, _⟩ := id FD.ex
  subst efd
  refine wpAny_Call_Name_kw (ld_glob I hg hm ?_ hdb)
  refine PySem.W.callWith_K (h₀ := X.base) I.ok.mod.kin FD.kp ?_ (by rfl) (by rfl)
  show wpAny _ _ (spliced ((false, eval (.Lambda pr bd sc lpos) X.env) :: backTo pos (starEach [] X.env))) _ _ s
  refine Calls.spliced_cons (LamX.lam_make2 I TB hcode hmT hu rh.tab hdef (L.has I.ok) fun f c' pm' ctv H1 s' I1 eN T1 hf hfn hfr hco => ?_)
  refine Calls.spliced_nil ⟨I1.kIn, ?_⟩
  obtain ⟨x1, rh1⟩ := rh.extN eN T1
  have re1 := re.ext x1
  have fi1 := Fin.mono fi x1
  have rc : codeAny (model X.prog X.w) X.A (.call (.ref (He.fAd X.K d.at_)) ⟨[.ref f], []⟩) (CR (L2.CX X.prog X.w) X.stack X.prog X.w H1 s' Q (fun cls dd G => W cls dd σ G)) s' := by
    refine run_at (N := N) (ps := [a]) (us := [.ref f]) (vs := [.ref f]) lk code hF.sc hr I1.env0 (hb s' (.ref f) I1.kIn) (.cons rfl .nil) rfl fun hr2 => ?_
    refine ⟨_, hF.body cdv X.A X.stack s' H1 (fun cls dd G => W cls dd σ G) ((rx X.K X.mg Tt).lam f c' (X.env.qual ++ "<lambda>") env σ).la Tt _ ((rx X.K X.mg Tt).lam f c' (X.env.qual ++ "<lambda>") env σ).mono (fun h1 => fe env h1) (hr2.mono hk) fun W2 pn xe p1 p2 tk2 => ?_, ?_⟩
    · exact de_act I1 L hf hfn hfr (bnd _ _ _ _ _) tk2 rfl hr2 (fun A outer s2 H2 E hr3 => lam A outer s2 H2 E f c' hr3) hF.n0 hF.vis hF.nd hF.ncd
    · have len : N.length = 1 + (N.length - 1) := by
        have := hF.n0
        cases N with
        | nil => cases this
        | cons y r => simp; omega
      refine ⟨α, some (.lam 0) :: List.replicate (N.length - 1) none, hp, ⟨?_, fun i dd e => ?_⟩, rh1.tolam re1 hco, ?_⟩
      · unfold L2.start
        simp
      · cases i with
        | zero =>
          cases e
          exact ⟨.ref f, rfl, f, rfl, rfl⟩
        | succ i =>
          rw [List.getElem?_cons_succ, List.getElem?_replicate] at e
          split at e <;> cases e
      · have back : ∀ {α' : List Addr} {H' : Hp} {h' : Hd}, RH ((rx X.K X.mg Tt).lam f c' (X.env.qual ++ "<lambda>") env σ) α' h' H' → RH (rx X.K X.mg Tt) α' h' H' := fun r => r.unlam
        have fi2 : FinE (rx X.K X.mg Tt) W α H1 σ (toldF N.length fb (fun h1 => fe env h1) hp) Q := fi1
        unfold toldF at fi2
        cases eb : fb (fun h1 => fe env h1) (some (.lam 0) :: List.replicate (N.length - 1) none) hp with
        | nx env2 h2 => rw [eb] at fi2; exact fun α' H' σ' x2 rh2 _ => fi2 α' H' .non x2 (back rh2) .non
        | rt d2 h2 => rw [eb] at fi2; exact fun α' H' v x2 rh2 rd => fi2 α' H' v x2 (back rh2) (RelD.unlam (R := rx X.K X.mg Tt) (f := f) (c' := c') (q := X.env.qual ++ "<lambda>") (env := env) (σ := σ) rd)
        | ex e env2 h2 => rw [eb] at fi2; exact fun α' H' σ' cls dd x2 rh2 _ rx2 => fi2 α' H' cls dd x2 (back rh2) (RelX.unlam (R := rx X.K X.mg Tt) (f := f) (c' := c') (q := X.env.qual ++ "<lambda>") (env := env) (σ := σ) rx2)
        | bk env2 h2 => rw [eb] at fi2; exact (show False from fi2).elim
        | ct env2 h2 => rw [eb] at fi2; exact (show False from fi2).elim
        | no => rw [eb] at fi2; exact fi2
  refine wpAny_call (codeAny_mono rc fun r s2 hq => ?_)
  cases r with
  | error e => exact tk e s2 (XE.of_call I1 (fun _ _ _ z => z) hq)
  | ok fl =>
    cases fl with
    | ret u => exact I1.after hq
    | next => exact False.elim hq
    | brk => exact False.elim hq
    | cont => exact False.elim hq
end
/-- a def whose text makes lambdas: its code object is known -/
theorem fd_okC {Tt : List (Addr × Str)} {P : Program} {w : World} {K : PySem.W.Frag} {mg : Str → Option Value} {base : Heap} {d : He.DefD} {N ps : List Str} {k : Nat} (F : ∃ fd, FunD K d.name d.qual d.params d.body d.scope (d.dvs K) (d.kws K) (He.fAd K d.at_) fd) (S : FnScope N ps d.scope) {fb : Fs}
    (hb : ∀ (A : Around) (outer : List PySem.Env) (s : Shared) (H : Hp) (E : XK), RoomG k (A.deeper (envOfC d.qual d.scope s.heap.objs.size (He.fAd K d.at_) (.ref (He.codeOf K d.at_)))) →
      DSs (cxOf (L2.CX P w) P w K mg base N d.qual d.scope (He.fAd K d.at_) (.ref (He.codeOf K d.at_)) A outer s H E) (rx K mg Tt) (fun cls dd _ H => E cls dd H) d.body fb) : FDx P w K mg Tt base d ps (k + 1) (runF N.length fb) := by
  obtain ⟨fd, F⟩ := F
  obtain ⟨oc, od, dV, kV, doc, pm, an, cdv, ct, osl, e, lk, hcd, _, _⟩ := id F.ex
  subst e
  obtain ⟨c, rfl⟩ := He.codeIn_ref hcd
  have ec : He.codeOf K d.at_ = c := He.codeOf_eq lk rfl
  subst ec
  refine ⟨_, F, fnG_of lk hcd S (fun vs H Q E h => h.1) fun A outer s H vs Q E hr h => ⟨_, hb A outer s H E hr, ?_⟩⟩
  obtain ⟨_, α, ds, hp, rd, rh, f⟩ := h
  refine ⟨α, _, hp, RelEnv.start rd, rh, ?_⟩
  unfold runF at f
  cases eb : fb (ds.map some ++ List.replicate (N.length - ds.length) none) hp with
  | no => rw [eb] at f; exact f
  | bk env h' => rw [eb] at f; exact (show False from f).elim
  | ct env h' => rw [eb] at f; exact (show False from f).elim
  | nx env h' => rw [eb] at f; exact fun α1 H1 σ1 x1 rh1 _ => f α1 H1 .non x1 rh1 .non
  | rt d h' => rw [eb] at f; exact f
  | ex e env h' => rw [eb] at f; exact fun α1 H1 σ1 cls dd x1 rh1 _ rx => f α1 H1 cls dd x1 rh1 rx
end Mi

set_option Elab.async false
set_option linter.all false
set_option maxRecDepth 100000
set_option maxHeartbeats 2000000
namespace Mi
open PySem PySem.Spec PyProof.Rows L2
/-! ### the end, with tables of code objects -/
section
variable {P : Program} {w : World} {K : PySem.W.Frag} {mg mb : Str → Option Value} {CX : CXT} {k : Nat} {fa a : Addr} {fd : FuncData} {x : Str} {sp : Sp} {s : Shared} {vs : List Value} {ns : List Int} {cs : List (Addr × Addr)}
theorem law_callT (inK : K.In s.heap) (nsG : s.heap.Ns mainGlobals mg) (blt : s.heap.Ns builtinsNs mb) (bltE : ∀ x : Str, x ≠ "__name__" → mb x = bootBuiltins x) (nol : s.heap.NoLimit) (gen : s.gens = #[])
    (tE : ∀ p ∈ cs, s.heap.get? p.2 = some { cls := .none, data := .fields #[] }) (tN : ∀ p ∈ cs, K.lookup p.2 = none) (tC : ∀ p ∈ cs, PySem.W.CodeHd s.heap p.1 p.2)
    (bmod : ∃ (m : Addr) (om : Obj), mg "__builtins__" = some (.ref m) ∧ m ≠ builtinsNs ∧ s.heap.get? m = some om ∧ om.cls = .type "module" ∧ om.dict = some builtinsNs ∧ om.data = .plain)
    (atA : s.heap.get? a = some { cls := .type "list", data := .seq vs.toArray }) (notK : K.lookup a = none) (intsA : IntsAre vs ns) (len : ns.length ≤ sizeLine) (room : RoomG k callerA)
    (fn : ∀ base : Heap, K.In base → base.Ns mainGlobals mg → (∀ p ∈ cs, LamX.TabB base mg p.1 p.2) → FnG P w K mg base CX k fa fd [x] sp) (bind : ∀ (s : Shared) (u : Value), BindsTo s fd ⟨[u], []⟩ [(x, u)])
    (spA : ∀ H : Hp, (∀ p ∈ cs, H p.2 = some (.tbl #[])) → (∃ ob, H a = some (.frz ob (.lst (ns.map V.int)))) → sp [.ref a] H (fun v _ => v = .bl true) fun _ _ _ => False) (cxA : ∀ H e s', CX [] H s (fun _ _ _ => False) e s' → False) :
    codeAny (model P w) callerA (.call (.ref fa) ⟨[.ref a], []⟩) (fun r s' => r = .ok (.ret (.bool true)) ∧ OldK s.heap s'.heap ∧ s'.os = s.os ∧ AllBare s'.gens) s := by
  let ts : List Addr := cs.map (·.2)
  let H : Hp := fun b => if b = a then some (.frz { cls := .type "list", data := .seq vs.toArray } (.lst (ns.map V.int))) else if b ∈ ts then some (.tbl #[]) else none
  have tab : ∀ b ∈ ts, s.heap.get? b = some { cls := .none, data := .fields #[] } := fun b hb => by
    obtain ⟨p, hp, rfl⟩ := List.mem_map.mp hb
    exact tE p hp
  have aOut : a ∉ ts := fun hb => by
    have q := tab a hb
    rw [atA] at q
    exact nomatch (congrArg Obj.data (Option.some.inj q) : Data.seq vs.toArray _ = Data.fields #[])
  have inTs : ∀ p ∈ cs, p.2 ∈ ts := fun p hp => List.mem_map.mpr ⟨p, hp, rfl⟩
  have HA : H a = some (.frz { cls := .type "list", data := .seq vs.toArray } (.lst (ns.map V.int))) := if_pos rfl
  have HT : ∀ b ∈ ts, H b = some (.tbl #[]) := fun b hb => (if_neg (show ¬ b = a from fun z => aOut (by rw [← z]; exact hb))).trans (if_pos hb)
  have HN : ∀ b, b ≠ a → b ∉ ts → H b = none := fun b h1 h2 => (if_neg h1).trans (if_neg h2)
  have okH : HOk P w H s.heap := fun b u e => by
    by_cases h1 : b = a
    · rw [h1, HA] at e
      cases e
      rw [h1]
      exact ⟨atA, by rw [List.length_map]; exact len, vs, _, vals_ints intsA, atA⟩
    · by_cases h2 : b ∈ ts
      · rw [HT b h2] at e
        cases e
        exact tab b h2
      · rw [HN b h1 h2] at e
        cases e
  -- an object of another shape is not tracked
  have free : ∀ {b : Addr} {o : Obj}, s.heap.get? b = some o → (∀ xs n, o.data ≠ .seq xs n) → o.data ≠ .fields #[] → H b = none := fun {b o} e h1 h2 => by
    refine HN b (fun z => ?_) fun z => ?_
    · rw [z, atA] at e
      cases e
      exact h1 _ _ rfl
    · rw [tab b z] at e
      cases e
      exact h2 rfl
  have at_ : ∀ {b : Addr} {o : Obj}, s.heap.get? b = some o → H b = none → (hidT s.heap H).get? b = some o := fun e n => hidT_get e n
  have atD : ∀ {b : Addr} {o : Obj} {es : Array DictEntry} {ep : Nat}, s.heap.get? b = some o → o.data = .dict es ep → (hidT s.heap H).get? b = some o := fun e d => at_ e (free e (fun xs n z => by rw [d] at z; cases z) fun z => by rw [d] at z; cases z)
  have nsB : ∀ {b : Addr} {m : Str → Option Value}, s.heap.Ns b m → (hidT s.heap H).Ns b m := fun ⟨o, es, ep, e, d, r⟩ => ⟨o, es, ep, atD e d, d, r⟩
  have kB : K.In (hidT s.heap H) := fun b o e => at_ (inK b o e) (HN b (fun z => by rw [z, notK] at e; cases e) fun z => by
    obtain ⟨p, hp, rfl⟩ := List.mem_map.mp z
    rw [tN p hp] at e
    cases e)
  have modB : L2.Mod K mg (hidT s.heap H) := ⟨kB, nsB nsG, ⟨mb, nsB blt, bltE⟩, let ⟨mc, h1, h2⟩ := nol; ⟨mc, nsB h1, h2⟩⟩
  have tb : ∀ p ∈ cs, LamX.TabB (hidT s.heap H) mg p.1 p.2 := fun p hp => by
    refine ⟨?_, ?_, fun z => ?_⟩
    · obtain ⟨o, us, fi, tf, fl, tg, inF, tx, tt, e1, r1, r2, r3, rest⟩ := tC p hp
      refine ⟨o, us, fi, tf, fl, tg, inF, tx, tt, at_ e1 (free e1 (fun xs n z => by rw [r2] at z; cases z) fun z => ?_), r1, r2, r3, rest⟩
      rw [r2] at z
      cases z
      simp at r3
    · obtain ⟨m, om, b1, b2, b3, b4, b5, b6⟩ := bmod
      have n1 : m ≠ mainGlobals := fun z => by
        obtain ⟨o, es, ep, e, d, _⟩ := nsG
        rw [← z, b3] at e
        cases e
        rw [b6] at d
        cases d
      have n2 : m ≠ p.2 := fun z => by
        rw [z, tE p hp] at b3
        cases b3
        cases b6
      exact ⟨m, om, b1, b2, n1, n2, at_ b3 (free b3 (fun xs n z => by rw [b6] at z; cases z) fun z => by rw [b6] at z; cases z), b4, b5, b6⟩
    · obtain ⟨o, es, ep, e, d, _⟩ := nsG
      rw [z, tE p hp] at e
      cases e
      cases d
  have e0 : Env0 P w K mg (hidT s.heap H) callerA [] s H := ⟨rfl, modB, fun b o e => of_hidT e, Nat.le_of_eq (hidT_size _ _), trivial, fun b hb => absurd (show b ∈ ([] : List Addr) from hb) (by simp), okH, .of_eq gen⟩
  refine codeAny_mono ((fn _ kB (nsB nsG) tb).run callerA [] s H ⟨[.ref a], []⟩ [.ref a] [.ref a] _ _ room e0 (bind s (.ref a)) (.cons rfl .nil) (spA H (fun p hp => HT _ (inTs p hp)) ⟨_, HA⟩)) fun r s' got => ?_
  cases r with
  | error e => exact (cxA H e s' got).elim
  | ok fl =>
    cases fl with
    | next => exact False.elim got
    | brk => exact False.elim got
    | cont => exact False.elim got
    | ret u =>
      obtain ⟨v, H', os, bare, un, ok2, rv, rfl⟩ := got
      obtain rfl : u = Value.bool true := rv
      have same : ∀ b o, b ∉ ts → s.heap.get? b = some o → s'.heap.get? b = some o := fun b o nb e => by
        by_cases h1 : b = a
        · subst h1
          obtain ⟨e2, _⟩ := ok2 b _ (un.frzs b _ _ HA)
          rw [e] at atA
          cases atA
          exact e2
        · exact un.keep b o e (HN b h1 nb) (by intro z; exact absurd (show b ∈ ([] : List Addr) from z) (by simp)) (by simp)
      have grew : ∀ b ∈ ts, ∃ more : Array Value, s'.heap.get? b = some { cls := .none, data := .fields more } := fun b hb => by
        obtain ⟨more, z⟩ := un.tbls b #[] (HT b hb)
        exact ⟨_, ok2 b _ z⟩
      refine ⟨rfl, ⟨fun b o e => ?_, fun b o e => ?_⟩, os, bare⟩
      · by_cases hb : b ∈ ts
        · obtain ⟨more, hm⟩ := grew b hb
          obtain ⟨p, hp, rfl⟩ := List.mem_map.mp hb
          rw [tE p hp] at e
          cases e
          exact .inr (.inl ⟨((tC p hp).tab (tE p hp)).isCodeTable, rfl, #[], more, rfl, by rw [Array.empty_append]; exact hm⟩)
        · exact .inl (same b o hb e)
      · by_cases hb : b ∈ ts
        · obtain ⟨more, hm⟩ := grew b hb
          exact ⟨_, hm⟩
        · exact ⟨o, same b o hb e⟩
end
/-! ### the hook -/
abbrev DefAt := Str × Option Str
def frU (g : Addr → Option Obj) (n : Nat) : PySem.W.Frag := (frM g n).filter fun p => !(He.emptyTab p.2)
theorem frU_sub {g : Addr → Option Obj} {n : Nat} {p : Addr × Obj} (h : p ∈ frU g n) : p ∈ frM g n := (List.mem_filter.mp h).1
theorem frU_get {g : Addr → Option Obj} {n : Nat} {a : Addr} {o : Obj} (e : (frU g n).lookup a = some o) : g a = some o ∧ He.emptyTab o = false := by
  have m := List.mem_filter.mp (lookup_mem e)
  have m1 := m.1
  unfold frM at m1
  exact ⟨frG_mem (p := (a, o)) (List.mem_filter.mp m1).1, by simpa using m.2⟩
theorem frU_in {h : Heap} {n : Nat} : (frU h.get? n).In h := fun a o e => (frU_get e).1
theorem frU_none {g : Addr → Option Obj} {n : Nat} {a : Addr} {o : Obj} (h : g a = some o) (t : He.emptyTab o = true) : (frU g n).lookup a = none := by
  cases e : (frU g n).lookup a with
  | none => rfl
  | some u =>
    obtain ⟨h1, h2⟩ := frU_get e
    rw [h] at h1
    cases h1
    rw [t] at h2
    cases h2
structure SaysU (fs : List (PySem.W.Frag → Bool)) (fn : List He.DefD) (tf : List DefAt) (h : Heap) (K : PySem.W.Frag) : Prop where
  inK : K.In h
  noL : ∀ p ∈ K, isLst p.2 = false
  c : obsK fs fn K = He.valD fn
  hd : ∀ p ∈ tf, PySem.W.codeHdIn K (He.cT K p).1 (He.cT K p).2 = true
  nd : (tf.map fun p => (He.cT K p).2).Nodup
  out : ∀ p ∈ tf, K.lookup (He.cT K p).2 = none
  emp : ∀ p ∈ tf, h.get? (He.cT K p).2 = some { cls := .none, data := .fields #[] }
def obsU (n : Nat) (fs : List (PySem.W.Frag → Bool)) (fn : List He.DefD) (tf : List DefAt) (g : Addr → Option Obj) : He.AlD × Bool := (obsK fs fn (frU g n), He.tabsB g tf (frU g n) && decide (tf.map fun p => (He.cT (frU g n) p).2).Nodup)
theorem saysU_of {n : Nat} {fs : List (PySem.W.Frag → Bool)} {fn : List He.DefD} {tf : List DefAt} {h : Heap} (e : obsU n fs fn tf h.get? = (He.valD fn, true)) : SaysU fs fn tf h (frU h.get? n) := by
  have e1 : obsK fs fn (frU h.get? n) = He.valD fn := congrArg (fun z : He.AlD × Bool => z.1) e
  have e2 : (He.tabsB h.get? tf (frU h.get? n) && decide (tf.map fun p => (He.cT (frU h.get? n) p).2).Nodup) = true := congrArg (fun z : He.AlD × Bool => z.2) e
  obtain ⟨h1, h2⟩ := He.ba e2
  have each : ∀ p ∈ tf, PySem.W.codeHdIn (frU h.get? n) (He.cT (frU h.get? n) p).1 (He.cT (frU h.get? n) p).2 = true ∧ ∃ o, h.get? (He.cT (frU h.get? n) p).2 = some o ∧ He.emptyTab o = true := fun p hp => by
    obtain ⟨h3, h4⟩ := He.ba (List.all_eq_true.mp h1 p hp)
    refine ⟨h3, ?_⟩
    split at h4
    · rename_i o q
      exact ⟨o, q, h4⟩
    · cases h4
  refine ⟨frU_in, fun p hp => frM_no (frU_sub hp), e1, fun p hp => (each p hp).1, of_decide_eq_true h2, fun p hp => ?_, fun p hp => ?_⟩
  · obtain ⟨_, o, q, z⟩ := each p hp
    exact frU_none q z
  · obtain ⟨_, o, q, z⟩ := each p hp
    rw [q, He.emptyTab_eq z]
def hookU (n : Nat) (fs : List (PySem.W.Frag → Bool)) (fn : List He.DefD) (tf : List DefAt) : PySem.W.Hook where
  α := He.AlD × Bool
  obs := fun s => obsU n fs fn tf s.heap.get?
  val := fun _ => (He.valD fn, true)
  says := fun _ h => ∃ K : PySem.W.Frag, SaysU fs fn tf h K
  of := fun _ _ e => ⟨_, saysU_of e⟩
  keeps := fun _ _ _ ⟨K, z⟩ k => ⟨K, PySem.W.Frag.In.keeps z.inK k, z.noL, z.c, z.hd, z.nd, z.out, fun p hp => k _ _ (z.emp p hp)⟩
theorem obsU_eq {n : Nat} {fs : List (PySem.W.Frag → Bool)} {fn : List He.DefD} {tf : List DefAt} {g : Addr → Option Obj} {s : Shared} (h : ∀ a, g a = s.heap.get? a) : obsU n fs fn tf g = (hookU n fs fn tf).obs s := by
  have e : g = s.heap.get? := funext h
  rw [e] <;> rfl
/-- the tables, and what their code objects are called -/
def tabsOf (K : PySem.W.Frag) (tf : List DefAt) : List (Addr × Str) := tf.map fun p => ((He.cT K p).2, (p.1 ++ (".<locals>." : Str)) ++ ("<lambda>" : Str))
theorem tabs_mem {K : PySem.W.Frag} {tf : List DefAt} {p : DefAt} (h : p ∈ tf) : ((He.cT K p).2, (p.1 ++ (".<locals>." : Str)) ++ ("<lambda>" : Str)) ∈ tabsOf K tf := List.mem_map.mpr ⟨p, h, rfl⟩
theorem tabs_one {K : PySem.W.Frag} : ∀ {tf : List DefAt} {p : DefAt}, (tf.map fun p => (He.cT K p).2).Nodup → p ∈ tf → ∀ q ∈ tabsOf K tf, q.1 = (He.cT K p).2 → q.2 = (p.1 ++ (".<locals>." : Str)) ++ ("<lambda>" : Str)
  | [], _, _, h, _, _, _ => absurd h (by simp)
  | r :: tf, p, nd, h, q, hq, e => by
    rw [List.map_cons, List.nodup_cons] at nd
    unfold tabsOf at hq
    rw [List.map_cons] at hq
    rcases List.mem_cons.mp h with h1 | h1 <;> rcases List.mem_cons.mp hq with h2 | h2
    · subst h1; subst h2; rfl
    · subst h1
      obtain ⟨z, hz, ez⟩ := List.mem_map.mp h2
      refine absurd (List.mem_map.mpr ⟨z, hz, ?_⟩) nd.1
      rw [← ez] at e
      exact e
    · subst h2
      exact absurd (List.mem_map.mpr ⟨p, h1, e.symm⟩) nd.1
    · exact tabs_one nd.2 h1 q h2 e
theorem walk_ofT {l : PySem.W.OpenLaw} {n k : Nat} {q : Program} {loose : List Str} {XP : (Str → Option Value) → Heap → Prop} {fs : List (PySem.W.Frag → Bool)} {fn : List He.DefD} {tf : List DefAt} {m : Nat} {d : DefRec} {x : Str}
    (hn : l.most = some n) (hn2 : n ≤ sizeLine) (hdf : d.params.defaults = []) (hr : RoomG k callerA)
    (F : ∀ (w : World) (mg : Str → Option Value) (fa : Addr) (h : Heap) (K : PySem.W.Frag), K.In h → obsK fs fn K = He.valD fn → (tf.map fun p => (He.cT K p).2).Nodup → h.Ns mainGlobals mg → mg d.name = some (.ref fa) →
      ∃ (fd : FuncData) (F0 : List D → Hd → Res D), (∀ (s : Shared) (u : Value), BindsTo s fd ⟨[u], []⟩ [(x, u)]) ∧
        (∀ ns : List Int, ns.length ≤ n → (∀ z ∈ ns, Builtin.Int.intBits z ≤ 1048576) → ∃ h', F0 [.ref 0] [.fro (ns.map .int)] = .ok (.bl true) h') ∧
        ∀ base : Heap, K.In base → base.Ns mainGlobals mg → (∀ p ∈ tf, LamX.TabB base mg (He.cT K p).1 (He.cT K p).2) → FnG l.prog w K mg base (L2.CX l.prog w) k fa fd [x] (spD (rx K mg (tabsOf K tf)) 1 F0)) :
    PySem.W.WalkO q loose XP (hookU m fs fn tf).says l.row.toRowW d [] (fun f vs => PySem.call f vs) := by
  refine Att.attach_callB hn hdf fun w s₀ s₁ mg mb fa o pm cd doc a vs ns G Y ho hd hcd hmg hobj hints hlen hbits hg => ?_
  obtain ⟨K, Z⟩ := Y
  obtain ⟨fd, F0, hb, hmath, hF⟩ := F w mg fa _ K Z.inK Z.c Z.nd G.T.g hmg
  have hk : K.lookup a = none := by
    cases e : K.lookup a with
    | none => rfl
    | some o =>
      have e2 := Z.inK a o e
      rw [hobj] at e2
      cases e2
      have z : isLst ({ cls := .type "list", data := .seq vs.toArray } : Obj) = false := Z.noL _ (lookup_mem e)
      have z2 : isLst ({ cls := .type "list", data := .seq vs.toArray } : Obj) = true := by show ("list" == "list") = true; rfl
      rw [z2] at z
      cases z
  have mem : ∀ {p : Addr × Addr}, p ∈ tf.map (He.cT K) → ∃ t ∈ tf, p = He.cT K t := fun h => by
    obtain ⟨t, ht, e⟩ := List.mem_map.mp h
    exact ⟨t, ht, e.symm⟩
  refine law_callT (cs := tf.map (He.cT K)) Z.inK G.T.g G.T.b G.T.builtins G.T.nolimit hg (fun p hp => ?_) (fun p hp => ?_) (fun p hp => ?_) G.T.bmain hobj hk hints (Nat.le_trans hlen hn2) hr (fun base h1 h2 h3 => hF base h1 h2 fun p hp => h3 _ (List.mem_map.mpr ⟨p, hp, rfl⟩)) hb (fun H hT hz => ?_) fun H e s' hx => ?_
  · obtain ⟨t, ht, rfl⟩ := mem hp
    exact Z.emp t ht
  · obtain ⟨t, ht, rfl⟩ := mem hp
    exact Z.out t ht
  · obtain ⟨t, ht, rfl⟩ := mem hp
    exact PySem.W.codeHd_of_K Z.inK (Z.hd t ht)
  · obtain ⟨ob, hz⟩ := hz
    obtain ⟨h', hm⟩ := hmath ns hlen hbits
    refine ⟨rfl, [a], [.ref 0], [.fro (ns.map .int)], .cons (.ref rfl) .nil, ⟨rfl, by simp, fun i o e => ?_, (fun p hp => ?_), trivial⟩, ?_⟩
    · cases i with
      | zero => cases e; exact ⟨a, rfl, ns.map .int, ob, hz, rel_ints ns⟩
      | succ i => simp at e
    · obtain ⟨t, ht, rfl⟩ := List.mem_map.mp hp
      exact LamX.TabS.nil (hT _ (List.mem_map.mpr ⟨t, ht, rfl⟩))
    · rw [hm]
      exact fun α' H' v x rh r => r.bl_inv
  · obtain ⟨_, _, _, _, _, _, _, _, _, _, _, _, z⟩ := hx
    exact z
end Mi

set_option Elab.async false
set_option linter.all false
set_option maxRecDepth 100000
set_option maxHeartbeats 2000000
namespace Mi
open PySem PySem.Spec PyProof.Rows L2
open PySem.W (Frag)
/-! ### bases of own exceptions -/
def leBase : List Value := [.type "LookupError", .type "Exception", .type "BaseException", .type "object"]
def oeBase : List Value := [.type "OverflowError", .type "ArithmeticError", .type "Exception", .type "BaseException", .type "object"]
theorem XBV : MiX.XBase "ValueError" "ValueError.__new__" "ValueError.__init__" He.veBase := ⟨PySem.F.excBase_ValueError, rfl, PySem.F.store_ValueError⟩
theorem XBL : MiX.XBase "LookupError" "LookupError.__new__" "LookupError.__init__" leBase := ⟨PySem.F.excBase_LookupError, rfl, PySem.F.store_LookupError⟩
theorem XBO : MiX.XBase "OverflowError" "OverflowError.__new__" "OverflowError.__init__" oeBase := ⟨PySem.F.excBase_OverflowError, rfl, PySem.F.store_OverflowError⟩
/-- such a class whose __init__ has no default -/
theorem xc_ok0 {K : Frag} {h : Heap} {mg : Str → Option Value} (X : K.In h) (G : h.Ns mainGlobals mg) {c f b : Str} {own : Bool} {T newId initId : String} {bm : List Value} (q : xcB c f b own T newId initId bm K = true)
    (hT : own = false → bootBuiltins b = some (.type T) ∧ b ≠ "__name__" ∧ typeOf (.type T) = pure (.type "type") ∧ Manifest.isStub T = false)
    (d1 : (f == ("__debug__" : Str)) = false) (d2 : f ≠ "self") (d3 : (b == ("__debug__" : Str)) = false) (d4 : b ≠ "self") (d5 : b ≠ f)
    {qual msg : Str} {j : Nat} {p1 p2 q1 q2 q3 q4 q5 q6 r1 r2 r3 r4 : Pos} (FD : ∃ fd, FunD K "__init__" qual (MiX.iA f [] p1 p2) (MiX.iB f b msg j q1 q2 q3 q4 q5 q6 r1 r2 r3 r4) (MiX.iS f b) [] [] (He.ma K (He.ga K c) "__init__") fd)
    (hcall : ∀ env : PySem.Env, ∃ pl, eval (.Call (.Attribute (.Name b q1) "__init__" q2) [.Name "self" q3, .Constant (.str msg) j q4] [] q5) env = (do
      let ov ← eval (.Name b q1) env
      standAt q2.atName
      let (f, first) ← holding [ov] (getMethod ov "__init__" pl)
      callWith q5 f first (backTo q5 (starEach [.Name "self" q3, .Constant (.str msg) j q4] env)) (backToKw q5 (keywordEach [] env))))
    (hbind : ∀ (kV doc pm : Value) (an : Option Addr) (cdv ct : Value) (us : List Value), us.length = 2 →
      bindArgs (PySem.W.fnOf "__init__" qual (MiX.iA f [] p1 p2) (MiX.iB f b msg j q1 q2 q3 q4 q5 q6 r1 r2 r3 r4) (MiX.iS f b) .none kV doc pm an cdv ct) ⟨us, []⟩ = pure ((["self", f] : List Str).zip us)) :
    MiX.XcTxt K mg c f b (He.ga K c) (He.ma K (He.ga K c) "__init__") newId initId bm := by
  unfold xcB at q
  obtain ⟨a1, q⟩ := He.ba q
  obtain ⟨a2, q⟩ := He.ba q
  obtain ⟨a3, q⟩ := He.ba q
  obtain ⟨a4, q⟩ := He.ba q
  obtain ⟨a5, q⟩ := He.ba q
  obtain ⟨a6, q⟩ := He.ba q
  obtain ⟨a7, q⟩ := He.ba q
  obtain ⟨a8, q⟩ := He.ba q
  obtain ⟨a9, q⟩ := He.ba q
  obtain ⟨a10, q⟩ := He.ba q
  obtain ⟨a11, q⟩ := He.ba q
  obtain ⟨a12, q⟩ := He.ba q
  obtain ⟨fd, FD⟩ := FD
  have b := FD.bindsN (ps := ["self", f]) fun kV doc pm an cdv ct us hl => hbind kV doc pm an cdv ct us hl
  refine { gC := PySem.W.mg_of X G (He.eqO_ok a1), ei := a2, hd := a3, sa := He.eqO_ok a4, ga := He.eqO_ok a5, gg := He.eqO_ok a6, noN := He.eqO_ok a7, iC := He.eqO_ok a8, tC := of_decide_eq_true a9, kC := a10, exC := of_decide_eq_true a11, tyC := of_decide_eq_true a12, fd_ := d1, fs_ := d2, bd_ := d3, bs_ := d4, bf_ := d5, base := base_ok X G q hT, fn := ?_ }
  refine ⟨qual, msg, [], j, p1, p2, q1, q2, q3, q4, q5, q6, r1, r2, r3, r4, _, fd, FD, hcall, fun us hl s KX => ?_⟩
  have := b s us KX (by rw [List.append_nil]; exact hl)
  rw [List.append_nil] at this
  exact this
/-! ### constants of the module -/
mutual
def litB (K : Frag) : D → Value → Bool
  | .int i, v => (match v with
    | .int j _ => decide (i = j)
    | _ => false)
  | .str x, v => (match v with
    | .str y _ => decide (x = y)
    | _ => false)
  | .bl b, v => (match v with
    | .bool c => decide (b = c)
    | _ => false)
  | .non, v => (match v with
    | .none => true
    | _ => false)
  | .tup ds, v => (match v with
    | .ref a => (match K.lookup a with
      | some ⟨.type c, _, .seq its _, _⟩ => decide (c = "tuple") && (decide (its.size ≤ sizeLine) && litsB K ds its.toList)
      | _ => false)
    | _ => false)
  | _, _ => false
def litsB (K : Frag) : List D → List Value → Bool
  | [], vs => vs.isEmpty
  | d :: ds, vs => (match vs with
    | v :: r => litB K d v && litsB K ds r
    | [] => false)
end
mutual
theorem lit_ok {K : Frag} : ∀ {d : D} {u : Value}, litB K d u = true → ∃ v : V, RelV v u ∧ ∀ (R : Rx) α H, R.K = K → RelD R α H d v
  | .int i, u, h => by
    unfold litB at h
    split at h
    · obtain rfl := of_decide_eq_true h
      exact ⟨.int i, ⟨_, rfl⟩, fun R α H _ => .int⟩
    · cases h
  | .str x, u, h => by
    unfold litB at h
    split at h
    · obtain rfl := of_decide_eq_true h
      exact ⟨.str x, ⟨_, rfl⟩, fun R α H _ => .str⟩
    · cases h
  | .bl b, u, h => by
    unfold litB at h
    split at h
    · obtain rfl := of_decide_eq_true h
      exact ⟨.bl b, rfl, fun R α H _ => .bl⟩
    · cases h
  | .non, u, h => by
    unfold litB at h
    split at h
    · exact ⟨.non, rfl, fun R α H _ => .non⟩
    · cases h
  | .tup ds, u, h => by
    unfold litB at h
    split at h
    · rename_i a
      split at h
      · rename_i c od its n sl lk
        obtain ⟨h1, h2⟩ := He.ba h
        obtain ⟨h3, h4⟩ := He.ba h2
        obtain rfl := of_decide_eq_true h1
        obtain ⟨vs, r1, r2⟩ := lits_ok h4
        exact ⟨.ref a, rfl, fun R α H e => .tup (by rw [e]; exact .inr ⟨_, its, _, lk, rfl, rfl, of_decide_eq_true h3, r1⟩) (r2 R α H e)⟩
      · cases h
    · cases h
  | .ref _, _, h => by unfold litB at h; cases h
  | .gl _, _, h => by unfold litB at h; cases h
  | .ty _, _, h => by unfold litB at h; cases h
  | .exc _ _ _ _, _, h => by unfold litB at h; cases h
  | .lam _, _, h => by unfold litB at h; cases h
  | .exv _ _ _ _, _, h => by unfold litB at h; cases h
theorem lits_ok {K : Frag} : ∀ {ds : List D} {us : List Value}, litsB K ds us = true → ∃ vs : List V, Vals vs us ∧ ∀ (R : Rx) α H, R.K = K → RelDs R α H ds vs
  | [], us, h => by
    unfold litsB at h
    cases us with
    | nil => exact ⟨[], .nil, fun R α H _ => .nil⟩
    | cons u r => cases h
  | d :: ds, us, h => by
    unfold litsB at h
    cases us with
    | nil => cases h
    | cons u r =>
      obtain ⟨h1, h2⟩ := He.ba h
      obtain ⟨v, r1, r2⟩ := lit_ok h1
      obtain ⟨vs, r3, r4⟩ := lits_ok h2
      exact ⟨v :: vs, .cons r1 r3, fun R α H e => .cons (r2 R α H e) (r4 R α H e)⟩
end
def litG (x : Str) (d : D) (K : Frag) : Bool := match PySem.W.nsIn K mainGlobals x with
  | some (some v) => litB K d v
  | _ => false
def LitR (K : Frag) (mg : Str → Option Value) (x : Str) (d : D) : Prop := ∃ (u : Value) (v : V), mg x = some u ∧ RelV v u ∧ ∀ (R : Rx) α H, R.K = K → RelD R α H d v
theorem litG_ok {K : Frag} {h : Heap} {mg : Str → Option Value} (X : K.In h) (G : h.Ns mainGlobals mg) {x : Str} {d : D} (q : litG x d K = true) : LitR K mg x d := by
  unfold litG at q
  split at q
  · rename_i u e
    obtain ⟨v, r1, r2⟩ := lit_ok q
    exact ⟨u, v, PySem.W.mg_of X G e, r1, r2⟩
  · cases q
theorem de_glit {X : Cx} {R : Rx} {W : WX} {pos : Pos} {x : Str} {d : D} (hg : Gl X x) (hK : R.K = X.K) (hm : LitR X.K X.mg x d) (hd : (x == ("__debug__" : Str)) = false := by decide) : DE X R W (.Name x pos) (eC d) := by
  obtain ⟨u, v, h1, h2, h3⟩ := hm
  exact de_const (pe_glob (v := v) hg h1 h2 hd) fun α H => h3 R α H hK
end Mi

set_option Elab.async false
set_option linter.all false
set_option maxRecDepth 100000
set_option maxHeartbeats 4000000
/-! ### an own exception made as a value: its arguments by place, by name, or none -/
namespace MiX
open PySem PySem.W PySem.Calls PyProof.Rows PySem.HandSPX
section
variable {prog : Program} {w : World} {A : Around} {E : Value → Shared → Prop} {R : Result → Shared → Prop} {h : Heap} {g : Array GenState} {d : Drawn} {t : Nat} {os : OsState}
variable {nm q : Str} {C N : Addr} {bs bm bmB : List Value} {hdct : Bool} {sn : List Str} {sub : List Value} {ab : Bool} {col : Option Bool} {dd : Option Addr} {k0 k1 k2 k3 k5 : Option Value} {B newId initId : String}
theorem check_new_kw {M : Model} (F : ExcBaseFacts B newId initId bmB) (hT : ∀ X : String, bm.contains (.type X) = bmB.contains (.type X)) {rs : List Value} {ks : List (Str × Value)} {Q : Unit → Shared → Prop}
    (at_ : h.get? C = some (excClassObj nm q C N bs bm hdct sn sub ab col dd k0 k1 k2 k3 k5 newId)) (hq : Q () ⟨h, g, d, t, os⟩) : wpAny M A (checkBuiltinCall newId ⟨.ref C :: rs, ks⟩) Q E ⟨h, g, d, t, os⟩ := by
  have inB : (Value.ref C :: bm).contains (.type B) = true := by rw [List.contains_cons, hT, F.hasB, Bool.or_true]
  have nostar := F.noStar
  simp only [checkBuiltinCall, F.newKind, F.newSplit, F.newRow]
  repeat (first | refine wpAny_loadPart_at at_ ?_ | (refine wpAny_isSubtype_exc at_ ?_; rw [inB]) | refine wpAny_staticBase_exc at_ ?_ | refine wpAny_madeBy_exc at_ ?_ | simp only [bne_self_eq_false, Bool.false_eq_true, if_false] | wp_step)
  exact hq
theorem new_kw (F : ExcBaseFacts B newId initId bmB) (hT : ∀ X : String, bm.contains (.type X) = bmB.contains (.type X)) {rs : List Value} {ks : List (Str × Value)}
    (at_ : h.get? C = some (excClassObj nm q C N bs bm hdct sn sub ab col dd k0 k1 k2 k3 k5 newId)) (short : rs.length ≤ sizeLine)
    (hq : R (.ok (.ret (.ref (h.objs.size + 1)))) ⟨(h.push (kdv_tup rs)).push (excO C h.objs.size), g, d, t, os⟩) :
    codeAny (model prog w) A (.builtin newId ⟨.ref C :: rs, ks⟩) R ⟨h, g, d, t, os⟩ := by
  have ends := F.ends
  have inB : (Value.ref C :: bm).contains (.type B) = true := by rw [List.contains_cons, hT, F.hasB, Bool.or_true]
  have notA : (Value.ref C :: bm).contains (.type "AttributeError") = false := by rw [List.contains_cons, hT, F.noAttr]; rfl
  have notN : (Value.ref C :: bm).contains (.type "NameError") = false := by rw [List.contains_cons, hT, F.noName]; rfl
  refine codeAny_builtinAt F.entry ?_
  unfold Builtin.«BaseException.__new__»
  refine PySem.wpAt_bind ?_
  show PySem.wpAt _ _ _ (stack >>= _) _ _ _
  refine PySem.wpAt_bind (PySem.wpAt_stack fun p below => PySem.wpAt_of_wpAny ?_)
  wp_walk
  refine PySem.wpAt_of_wpAny ?_
  rw [F.owner]
  repeat (first | with_reducible refine wpAny_madeHere_exc F.canon at_ ?_ | with_reducible refine wpAny_loadPart_at at_ ?_ | (with_reducible refine wpAny_isSubtype_exc at_ ?_; first | rw [inB] | rw [notA] | rw [notN]) | wp_step)
  show R _ _
  rw [Heap.size_push]
  exact hq
theorem type_call_kw (F : ExcBaseFacts B newId initId bmB) (hT : ∀ X : String, bm.contains (.type X) = bmB.contains (.type X)) {rs : List Value} {ks : List (Str × Value)} {fI : Addr} {Q : Fin → Shared → Prop}
    (at_ : h.get? C = some (excClassObj nm q C N bs bm hdct sn sub ab col dd k0 k1 k2 k3 k5 newId))
    (hi : W.Looks (model prog w) h (typeLookup (.ref C) "__init__") (some (.ref fI))) (hb : ∀ self, W.Looks (model prog w) h (bindSpecial (.ref fI) self) (.ref fI, [self])) (short : rs.length ≤ sizeLine)
    (hq : codeAny (model prog w) A (.call (.ref fI) ⟨.ref (h.objs.size + 1) :: rs, ks⟩)
      (fun r s' => match r with | .ok (.ret v) => v = .none ∧ Q (.done (.ret (.ref (h.objs.size + 1)))) s' | .ok _ => False | .error e => E e s') ⟨(h.push (kdv_tup rs)).push (excO C h.objs.size), g, d, t, os⟩) :
    wpAny (model prog w) A (Builtin.«type.__call__» ⟨.ref C :: rs, ks⟩) Q E ⟨h, g, d, t, os⟩ := by
  repeat (first | with_reducible refine wpAny_loadPart_at at_ ?_ | with_reducible refine wpAny_madeBy_exc at_ ?_ | wp_step)
  refine codeAny_call_builtin_code (Code.quiet_builtin _ F.quiet) (check_new_kw F hT at_ ?_)
  refine new_kw F hT at_ short ?_
  show wpAny _ _ _ _ _ _
  have more : ∀ b o, h.get? b = some o → ((h.push (kdv_tup rs)).push (excO C h.objs.size)).get? b = some o := fun b o e => Heap.get?_push_of_some _ (Heap.get?_push_of_some _ e)
  have at2 := more _ _ at_
  have new_ : ((h.push (kdv_tup rs)).push (excO C h.objs.size)).get? (h.objs.size + 1) = some (excO C h.objs.size) := by heap_get
  have self_ : (Value.ref C :: bm).contains (.ref C) = true := by simp
  have i2 := hi.keeps more
  have b2 := (hb (.ref (h.objs.size + 1))).keeps more
  unfold isInstance
  repeat (first | with_reducible refine wpAny_loadPart_at new_ ?_ | (with_reducible refine wpAny_isSubtype_exc at2 ?_; rw [self_]) | wp_step)
  show wpAny _ _ (typeLookup (.ref C) _) _ _ _
  refine i2.at ?_
  refine wpAny_holding (wpAny_bind (b2.at ?_))
  refine wpAny_bind (wpAny_call (codeAny_mono hq fun r s' z => ?_))
  rcases r with e | (v | _ | _ | _) <;> first | exact z | exact z.elim | skip
  obtain ⟨rfl, z⟩ := z
  first
    | exact wpAny_pure (wpAny_pure z)
    | (wp_walk; exact z)
theorem type_check_kw {M : Model} {rs : List Value} {ks : List (Str × Value)} {Q : Unit → Shared → Prop} (at_ : h.get? C = some (excClassObj nm q C N bs bm hdct sn sub ab col dd k0 k1 k2 k3 k5 newId)) (hq : Q () ⟨h, g, d, t, os⟩) :
    wpAny M A (checkBuiltinCall "type.__call__" ⟨.ref C :: rs, ks⟩) Q E ⟨h, g, d, t, os⟩ := by
  have f3 := tc_sub
  have isT : (⟨h, g, d, t, os⟩ : Shared).TypeIs (.ref C) "type" := ⟨_, at_, rfl⟩
  simp only [checkBuiltinCall, tc_kind, tc_split]
  repeat (any_goals (first | assumption | with_reducible refine wpAny_loadPart_at at_ ?_ | with_reducible refine wpAny_onRaise ?_ | with_reducible refine wpAny_map ?_ | wp_step))
theorem call_kw (F : ExcBaseFacts B newId initId bmB) (hT : ∀ X : String, bm.contains (.type X) = bmB.contains (.type X)) {rs : List Value} {ks : List (Str × Value)} {fI : Addr}
    (at_ : h.get? C = some (excClassObj nm q C N bs bm hdct sn sub ab col dd k0 k1 k2 k3 k5 newId))
    (hi : W.Looks (model prog w) h (typeLookup (.ref C) "__init__") (some (.ref fI))) (hb : ∀ self, W.Looks (model prog w) h (bindSpecial (.ref fI) self) (.ref fI, [self])) (short : rs.length ≤ sizeLine)
    (hq : codeAny (model prog w) (A.under (.builtin "type.__call__" ⟨.ref C :: rs, ks⟩)) (.call (.ref fI) ⟨.ref (h.objs.size + 1) :: rs, ks⟩) (W.InitBack (h.objs.size + 1) R) ⟨(h.push (kdv_tup rs)).push (excO C h.objs.size), g, d, t, os⟩) :
    codeAny (model prog w) A (.call (.ref C) ⟨rs, ks⟩) R ⟨h, g, d, t, os⟩ := by
  have f1 := tc_lookup
  have f2 := tc_bind (.ref C)
  have isT : (⟨h, g, d, t, os⟩ : Shared).TypeIs (.ref C) "type" := ⟨_, at_, rfl⟩
  refine codeAny_of_tree ?_
  show wpAny _ _ (callAny (.ref C) _) _ _ _
  repeat (any_goals (first | assumption | with_reducible refine wpAny_loadPart_at at_ ?_ | wp_step))
  refine ⟨rfl, ?_⟩
  refine codeAny_call_builtin_at (Code.quiet_builtin _ (by decide +kernel)) entry_typeCall (type_check_kw at_ (type_call_kw F hT at_ hi hb short ?_))
  refine codeAny_mono hq fun r s' z => ?_
  rcases r with e | (v | _ | _ | _) <;> exact z
/-- the base's __init__ lays the args anew -/
theorem init_args (F : ExcBaseFacts B newId initId bmB) (hT : ∀ X : String, bm.contains (.type X) = bmB.contains (.type X)) {e t0 : Addr} {rs : List Value}
    (at_ : h.get? C = some (excClassObj nm q C N bs bm hdct sn sub ab col dd k0 k1 k2 k3 k5 newId)) (he : h.get? e = some (excO C t0)) (short : rs.length ≤ sizeLine)
    (hq : ∀ h' t1, (∀ b o, b ≠ e → h.get? b = some o → h'.get? b = some o) → h'.get? e = some (excO C t1) → h.objs.size ≤ t1 → t1 ≠ e → h'.get? t1 = some (kdv_tup rs) → R (.ok (.ret .none)) ⟨h', g, d, t, os⟩) :
    codeAny (model prog w) A (.call (.builtin initId) ⟨.ref e :: rs, []⟩) R ⟨h, g, d, t, os⟩ := by
  refine codeAny_call_builtin F.init.plain F.initEntry (check_init_own F hT at_ he rfl ?_)
  wp_walk
  have ne : e ≠ h.objs.size := Nat.ne_of_lt (Heap.lt_size he)
  refine hq _ h.objs.size (fun b o hb ho => ?_) ?_ (Nat.le_refl _) (Ne.symm ne) ?_
  · rw [Heap.get?_update_other _ _ (Ne.symm hb)]
    exact Heap.get?_push_of_some _ ho
  · rw [Heap.get?_update_self _ (Heap.get?_push_of_some _ he) rfl]
    rfl
  · rw [Heap.get?_update_other _ _ ne]
    exact Heap.get?_push_size _ rfl
end
end MiX

set_option Elab.async false
set_option linter.all false
set_option maxRecDepth 100000
set_option maxHeartbeats 4000000
namespace MiX
open PySem PySem.W PySem.Calls PyProof.Rows PySem.HandSPX
/-- how the one argument is given -/
inductive Am where
  | pos | kw | dfl
deriving DecidableEq
def Am.us (v : Value) : Am → List Value
  | .pos => [v]
  | _ => []
def Am.ks (f : Str) (v : Value) : Am → List (Str × Value)
  | .kw => [(f, v)]
  | _ => []
theorem Am.short {v : Value} {m : Am} : (m.us v).length ≤ sizeLine := by
  rw [sizeLine_eq]
  cases m <;> simp [Am.us]
/-- the class's text with its message, its binding each way; od: it has a default -/
structure XcV (K : Frag) (mg : Str → Option Value) (c f b m : Str) (od : Bool) (C fI : Addr) (newId initId : String) (bmB : List Value) : Prop where
  T : XcTxt K mg c f b C fI newId initId bmB
  ga : findIn K (.ref C) "__class__" = some (some (.builtin "object.__class__"))
  st : findIn K (.ref C) "__str__" = some (some (.builtin "BaseException.__str__"))
  mo : mroIn K C (.type "object") = some true
  fn : ∃ (qual : Str) (dfl : List Expr) (j : Nat) (p1 p2 q1 q2 q3 q4 q5 q6 r1 r2 r3 r4 : Pos) (dvs : List L2.V) (fd : FuncData), L2.FunD K "__init__" qual (iA f dfl p1 p2) (iB f b m j q1 q2 q3 q4 q5 q6 r1 r2 r3 r4) (iS f b) dvs [] fI fd ∧
    (∀ env : Env, ∃ pl, eval (.Call (.Attribute (.Name b q1) "__init__" q2) [.Name "self" q3, .Constant (.str m) j q4] [] q5) env = (do
      let ov ← eval (.Name b q1) env
      standAt q2.atName
      let (f, first) ← holding [ov] (getMethod ov "__init__" pl)
      callWith q5 f first (backTo q5 (starEach [.Name "self" q3, .Constant (.str m) j q4] env)) (backToKw q5 (keywordEach [] env)))) ∧
    ∀ (am : Am) (x v : Value) (s : Shared), (am = .dfl → od = true ∧ v = .none) → K.In s.heap → BindsTo s fd ⟨x :: am.us v, am.ks f v⟩ ((["self", f] : List Str).zip [x, v])
structure MadeV (h h' : Heap) (e C d : Addr) (f : Str) (v : Value) (m : Str) : Prop where
  keep : ∀ b o, h.get? b = some o → h'.get? b = some o
  new : h.objs.size ≤ e
  obj : ∃ (t : Addr) (tk : Tok), h'.get? e = some { cls := .ref C, dict := some d, data := .fields #[.ref t, .none, .none, .none, .bool false, .none] } ∧ t ≠ e ∧ t ≠ d ∧ h.objs.size ≤ t ∧ h'.get? t = some (kdv_tup [.str m tk])
  dbig : h.objs.size ≤ d
  dne : d ≠ e
  ns : h'.Ns1 d (fun y => if y = f then some v else none)
section
variable {prog : Program} {w : World} {A : Around} {E : Value → Shared → Prop} {R : Result → Shared → Prop} {s : Shared} {K : Frag} {mg : Str → Option Value} {C fI : Addr} {c f b m : Str} {od : Bool} {B newId initId : String} {bmB : List Value} {am : Am} {v : Value}
theorem v_init (XB : XBase B newId initId bmB) (Z : XcV K mg c f b m od C fI newId initId bmB) {x t0 : Addr} (X : K.In s.heap) (hlim : s.heap.NoLimit) (G : s.heap.Ns mainGlobals mg) (BL : ∃ mb, s.heap.Ns builtinsNs mb ∧ ∀ x : Str, x ≠ "__name__" → mb x = bootBuiltins x)
    (hx : s.heap.get? x = some (excO C t0)) (hnx : K.lookup x = none) (hroom : A.depth < recursionLimit) (how : am = .dfl → od = true ∧ v = .none)
    (hq : ∀ h' tk dx t1 km, (∀ b o, b ≠ x → s.heap.get? b = some o → h'.get? b = some o) → h'.get? x = some { cls := .ref C, dict := some dx, data := .fields #[.ref t1, .none, .none, .none, .bool false, .none] } → t1 ≠ x → t1 ≠ dx → s.heap.objs.size ≤ t1 → h'.get? t1 = some (kdv_tup [.str m km]) →
      s.heap.objs.size ≤ dx → dx ≠ x → h'.Ns1 dx (fun y => if y = f then some v else none) → R (.ok (.ret .none)) { s with heap := h', toks := tk }) :
    codeAny (model prog w) A (.call (.ref fI) ⟨.ref x :: am.us v, am.ks f v⟩) R s := by
  have T := Z.T
  obtain ⟨qual, dfl, j, p1, p2, q1, q2, q3, q4, q5, q6, r1, r2, r3, r4, dvs, fd, FD, hcall, hbind⟩ := Z.fn
  obtain ⟨oc, od2, dV, kV, doc, pm, an, cdv, ct, osl, rfl, ho, hcd, _, _⟩ := FD.ex
  obtain ⟨nm, N, q, bs, bm, hdct, sn, sub, ab, col, dd, k0, k1, k2, k3, k5, hC, hbm⟩ := exc_cls T.ei
  have hcl : clsIn K C = some { name := nm, bases := bs, mro := .ref C :: bm, ns := N, qualname := q, hasDict := hdct, slotNames := sn, subclasses := sub, abstract := ab, collection := col, hasDel := false } := by unfold clsIn; rw [hC] <;> rfl
  have hhd : hdct = true := by
    have := T.hd
    unfold hasDictIn at this
    rw [hcl] at this
    exact this
  subst hhd
  refine Att.call_fn (binds := [("self", .ref x), (f, v)]) X hlim ho hcd hroom (hbind am (.ref x) v s how X) ?_ (fun s₁ IC => ?_) rfl rfl rfl
  · show (((iS f b).names.lookup ("self" : Str) == some .local || _) && (((iS f b).names.lookup f == some .local || _) && true)) = true
    rw [look_self, look_f T.fs_]
    rfl
  obtain ⟨h₁, tk₁, rfl⟩ := IC.toInCall.same
  have k : ∀ b o, s.heap.get? b = some o → h₁.get? b = some o := IC.toInCall.keep
  have hn := IC.toInCall.ns
  have hxL : s.heap.objs.size ≠ x := Nat.ne_of_gt (Heap.lt_size hx)
  have X₁ : K.In h₁ := X.keeps k
  have hx₁ := k _ _ hx
  have G₁ : h₁.Ns mainGlobals mg := G.keeps k
  obtain ⟨mb, B1, B2⟩ := BL
  have B₁ : h₁.Ns builtinsNs mb := B1.keeps k
  have mS : (bindL (envOfC qual (iS f b) s.heap.objs.size fI cdv).kindOf [("self", .ref x), (f, v)] fun _ => none) "self" = some (.ref x) :=
    L2.bindL_get (kindOf := (envOfC qual (iS f b) s.heap.objs.size fI cdv).kindOf) (P := [("self" : Str), f]) (vs := [.ref x, v]) (i := 0) (x := ("self" : Str)) (v := .ref x) (m := fun _ => none) (by simp [Ne.symm T.fs_]) rfl rfl look_self
  have mF : (bindL (envOfC qual (iS f b) s.heap.objs.size fI cdv).kindOf [("self", .ref x), (f, v)] fun _ => none) f = some v :=
    L2.bindL_get (kindOf := (envOfC qual (iS f b) s.heap.objs.size fI cdv).kindOf) (P := [("self" : Str), f]) (vs := [.ref x, v]) (i := 1) (x := f) (v := v) (m := fun _ => none) (by simp [Ne.symm T.fs_]) rfl rfl (look_f T.fs_)
  show wpAny _ _ (execs _ _) _ _ _
  refine wpAny_execs_cons (wpAny_Expr_any ?_)
  obtain ⟨pl, hcl2⟩ := hcall (envOfC qual (iS f b) s.heap.objs.size fI cdv)
  refine PySem.W.methodCall_KW (pl := pl) ?_ hcl2
  have ldB : ∀ {Q : Value → Shared → Prop} {E' : Value → Shared → Prop}, (∀ ov, (∀ (s2 : Shared) (Q2 : Value × List Value → Shared → Prop) (E2 : Value → Shared → Prop), s2.heap = h₁ → Q2 (.builtin initId, []) { s2 with toks := s2.toks + 1 } → wpAny (model prog w) (A.deeper (envOfC qual (iS f b) s.heap.objs.size fI cdv)) (getMethod ov "__init__" pl) Q2 E2 s2) → Q ov { s with heap := h₁, toks := tk₁ }) →
      wpAny (model prog w) (A.deeper (envOfC qual (iS f b) s.heap.objs.size fI cdv)) (eval (.Name b q1) (envOfC qual (iS f b) s.heap.objs.size fI cdv)) Q E' { s with heap := h₁, toks := tk₁ } := fun {Q E'} hQ => by
    rcases T.base with ⟨CB, m1, m2, m3, m4⟩ | ⟨T', m1, m2, m3, m4, m5, m6⟩
    · refine Calls.Name_function_global rfl (look_b T.bs_ T.bf_) (Calls.loadGlobal_global G₁ m1 (hQ _ fun s2 Q2 E2 eh hq2 => ?_)) T.bd_
      have X2 : K.In s2.heap := by rw [eh]; exact X₁
      exact method_cls X2 m2 (cls_value X2 m3 m4 XB.hh hq2)
    · refine Calls.Name_function_global rfl (look_b T.bs_ T.bf_) (Calls.loadGlobal_builtin G₁ m1 B₁ ((B2 b m3).trans m2) (hQ _ fun s2 Q2 E2 eh hq2 => ?_)) T.bd_
      have X2 : K.In s2.heap := by rw [eh]; exact X₁
      have LO : Looks (model prog w) s2.heap (opaqueClassAbove (.type T')) none := Looks.of_pure (by unfold opaqueClassAbove; dsimp only; rw [m5]; rfl)
      have L0 : Looks (model prog w) s2.heap (typeOf (.type T')) (.type "type") := Looks.of_pure m4
      have hg : findIn K (.type "type") "__getattribute__" = some (some (.builtin "type.__getattribute__")) := type_tga
      unfold getMethod specialOf
      refine wpAny_bind (wpAny_bind (L0.here ((looks_findIn X2 hg).here ?_)))
      dsimp only
      rw [if_pos canon_tga]
      refine wpAny_bind (wpAny_mono (Q := fun v => Q2 (v, [])) (E := E2) ?_ (fun _ _ z => wpAny_pure z) fun _ _ z => z)
      exact cls_open X2 LO L0 hg (looks_hook X2 (r := none) (by rfl)) (by show subIn K _ _ = _; rfl) m6
        (wpAny_pure (by show wpAny _ _ (handedOut _) _ _ _; rw [handedOut_of XB.hh]; exact wpAny_pure hq2))
  refine ldB fun ov hov => hov _ _ _ rfl ?_
  show wpAny _ _ (callWith q5 (Value.builtin initId) [] (backTo q5 (starEach [.Name "self" q3, .Constant (.str m) j q4] _)) []) _ _ _
  refine PyProof.Rows.callWith_method1 (Calls.spliced_cons (ldL hn mS (Calls.spliced_cons (Calls.Constant_str (pos := q4) (k := j) (Calls.spliced_nil ?_))) rfl look_self (by decide))) (by rfl) (by rfl)
  show wpAny _ _ (call (.builtin initId) [.ref x, .str m _]) _ _ _
  refine wpAny_call (init_args XB.F (fun Y => excTail_contains Y bm hbm) (X₁ _ _ hC) hx₁ (by rw [sizeLine_eq]; exact (by decide : 1 ≤ 16777216)) fun h₂ t1 k₂ hx₂ bt nt ht => ?_)
  have X₂ : K.In h₂ := kept_but X₁ hnx k₂
  have hn₂ : h₂.Ns s.heap.objs.size _ := hn.at fun o e => k₂ _ o hxL e
  show wpAny _ _ (execs _ _) _ _ _
  refine wpAny_execs_cons (plainObj_wpAny_Assign_Attribute ?_)
  refine ldL hn₂ mF (ldL hn₂ mS ?_ rfl look_self (by decide)) rfl (look_f T.fs_) T.fd_
  refine set_plain X₂ (ox := excO C t1) (od := none) ⟨hx₂, rfl, rfl, trivial⟩ T.sa ?_
  refine osa_new XB.S X₂ hx₂ hcl ⟨bm, rfl, hbm⟩ rfl T.noN (fun h₃ tk₃ dx k₃ dn dne hx₃ hn₃ => ?_)
  show wpAny _ _ (execs _ _) _ _ _
  have z : s.heap.objs.size < h₂.objs.size := hn₂.lt
  exact wpAny_execs_nil (hq h₃ tk₃ dx t1 _ (fun b o hb e => k₃ b o hb (k₂ b o hb (k b o e))) hx₃ nt (Nat.ne_of_lt (Nat.lt_of_lt_of_le (Heap.lt_size ht) dn)) (Nat.le_of_lt (Nat.lt_of_lt_of_le (IC.toInCall.ns.lt) bt)) (k₃ _ _ nt ht) (Nat.le_of_lt (Nat.lt_of_lt_of_le z dn)) dne hn₃)
theorem v_made (XB : XBase B newId initId bmB) (Z : XcV K mg c f b m od C fI newId initId bmB) (X : K.In s.heap) (hlim : s.heap.NoLimit) (G : s.heap.Ns mainGlobals mg) (BL : ∃ mb, s.heap.Ns builtinsNs mb ∧ ∀ x : Str, x ≠ "__name__" → mb x = bootBuiltins x) (hroom : A.depth + 1 < recursionLimit)
    (how : am = .dfl → od = true ∧ v = .none) (hq : ∀ h' tk e d, MadeV s.heap h' e C d f v m → R (.ok (.ret (.ref e))) { s with heap := h', toks := tk }) :
    codeAny (model prog w) A (.call (.ref C) ⟨am.us v, am.ks f v⟩) R s := by
  have T := Z.T
  obtain ⟨nm, N, q, bs, bm, hdct, sn, sub, ab, col, dd, k0, k1, k2, k3, k5, hC, hbm⟩ := exc_cls T.ei
  obtain ⟨hp, g, dr, tk, os⟩ := s
  have k : ∀ b o, hp.get? b = some o → ((hp.push (kdv_tup (am.us v))).push (excO C hp.objs.size)).get? b = some o := fun b o e => Heap.get?_push_of_some _ (Heap.get?_push_of_some _ e)
  have hget : ((hp.push (kdv_tup (am.us v))).push (excO C hp.objs.size)).get? (hp.objs.size + 1) = some (excO C hp.objs.size) := by heap_get
  have hnx : K.lookup (hp.objs.size + 1) = none := by
    cases e : K.lookup (hp.objs.size + 1) with
    | none => rfl
    | some o =>
      have z : hp.get? (hp.objs.size + 1) = some o := X _ _ e
      exact absurd (Nat.lt_of_succ_lt (Heap.lt_size z)) (Nat.lt_irrefl _)
  obtain ⟨mb, B1, B2⟩ := BL
  refine call_kw XB.F (fun Y => excTail_contains Y bm hbm) (X _ _ hC) (looks_findIn X T.iC) (fun self => bind_fn X self T.tC) Am.short ?_
  refine v_init (s := ⟨(hp.push (kdv_tup (am.us v))).push (excO C hp.objs.size), g, dr, tk, os⟩) XB Z (X.keeps k) (hlim.keeps k) (G.keeps k) ⟨mb, B1.keeps k, B2⟩ hget hnx ?_ how fun h' tk' dx t1 km k' hx nt nd bt ht dn dne hns => ?_
  · show A.depth + 1 < recursionLimit
    exact hroom
  · have old : ∀ b o, hp.get? b = some o → h'.get? b = some o := fun b o e => k' b o (Nat.ne_of_lt (Nat.lt_succ_of_lt (Heap.lt_size e))) (k b o e)
    have z : hp.objs.size + 1 + 1 ≤ dx := by
      first
        | (simpa only [Heap.size_push] using dn)
        | exact dn
        | (have q := dn; rw [Heap.size_push, Heap.size_push] at q; exact q)
    have bt' : hp.objs.size ≤ t1 := Nat.le_trans (Nat.le_trans (Nat.le_succ _) (Nat.le_succ _)) (show hp.objs.size + 1 + 1 ≤ t1 by
      first
        | (simpa only [Heap.size_push] using bt)
        | exact bt
        | (have q := bt; rw [Heap.size_push, Heap.size_push] at q; exact q))
    exact ⟨rfl, hq h' tk' (hp.objs.size + 1) dx ⟨old, Nat.le_succ _, ⟨t1, km, hx, nt, nd, bt', ht⟩, Nat.le_trans (Nat.le_trans (Nat.le_succ _) (Nat.le_succ _)) z, dne, hns⟩⟩
end
end MiX

set_option Elab.async false
set_option linter.all false
set_option maxRecDepth 100000
set_option maxHeartbeats 4000000
namespace Mi
open PySem PySem.Spec PyProof.Rows L2
open MiX (Am XcV MadeV)
/-! ### an own exception as a value -/
theorem exV_ok {P : Program} {w : World} {H : Hp} {h : Heap} {a d t : Addr} {cls : Value} {oe : Obj} {vs : Array Value} (e : h.get? a = some oe) (e1 : oe.cls = cls) (e2 : oe.dict = some d) (e3 : oe.data = .fields vs) (e4 : vs[0]? = some (.ref t)) (e5 : vs[1]? = some .none) : ObjOk P w H h a (ExV cls a d t) :=
  ⟨⟨oe, vs, e, e1, e2, e3, e4, e5⟩, ⟨oe, e⟩, fun _ _ ⟨oe, vs, e, e1, e2, e3, e4, e5⟩ k => ⟨oe, vs, k _ e, e1, e2, e3, e4, e5⟩⟩
@[simp] def eMk (c f m : Str) (fe : Fe) : Fe := fun env h => (fe env h).bind fun v h1 => .ok (.exv c f v m) h1
section
variable {X : Cx} {R : Rx} {W : WX} {C fI : Addr} {c f b m : Str} {od : Bool} {B newId initId : String} {bmB : List Value} {pins : List (Addr × Obj)} {σ : St} {H : Hp} {s : Shared} {Q : VK} {α : List Addr} {h : Hd} {k : Nat}
theorem run_mk (am : Am) (XB : MiX.XBase B newId initId bmB) (Z : XcV X.K X.mg c f b m od C fI newId initId bmB) (hr : RoomG k X.A) (hR : R.mg = X.mg) {v : Value} {vv : V} {d : D} (I : Inv X pins σ H s) (rv : RelV vv v) (rd : RelD R α H d vv) (rh : RH R α h H) (how : am = .dfl → od = true ∧ v = .none)
    (fi : FinE R W α H σ (.ok (.exv c f d m) h) Q) : codeAny (model X.prog X.w) X.A (.call (.ref C) ⟨am.us v, am.ks f v⟩) (fun r s' => ∃ u, r = .ok (.ret u) ∧ EP X pins σ Q u s') s := by
  have nolim := I.nolimit
  have G0 : s.heap.Ns mainGlobals X.mg := I.ok.mod.glob.keeps I.bk
  have B0 : ∃ mb, s.heap.Ns builtinsNs mb ∧ ∀ x : Str, x ≠ "__name__" → mb x = bootBuiltins x := by
    obtain ⟨mb, b1, b2⟩ := I.ok.mod.blt
    exact ⟨mb, b1.keeps I.bk, b2⟩
  obtain ⟨hp, g, dr, tk, os⟩ := s
  refine MiX.v_made XB Z I.kIn nolim G0 B0 (by have := hr.rm.dp; omega) how fun h' tk' e dd M => ⟨.ref e, rfl, ?_⟩
  obtain ⟨t, km, oe, nt, ntd, bt, ot⟩ := M.obj
  have ns := M.ns
  obtain ⟨G1, g1, g2⟩ := restrict h' fun b => decide (b ≠ e)
  obtain ⟨G0, g3, g4⟩ := restrict G1 fun b => decide (b ≠ t)
  have k1 : ∀ b, b ≠ e → G1.get? b = h'.get? b := fun b hb => g1 b (decide_eq_true hb)
  have k0 : ∀ b, b ≠ t → G0.get? b = G1.get? b := fun b hb => g3 b (decide_eq_true hb)
  have ge : G1.get? e = none := g2 e (by simp)
  have gt : G0.get? t = none := g4 t (by simp)
  have sub1 : ∀ b o, G1.get? b = some o → h'.get? b = some o := fun b o q => by
    by_cases hb : b = e
    · rw [hb, ge] at q; cases q
    · rw [← k1 b hb]; exact q
  have sub0 : ∀ b o, G0.get? b = some o → G1.get? b = some o := fun b o q => by
    by_cases hb : b = t
    · rw [hb, gt] at q; cases q
    · rw [← k0 b hb]; exact q
  have old : ∀ b o, hp.get? b = some o → G0.get? b = some o := fun b o q => (k0 b (Nat.ne_of_lt (Nat.lt_of_lt_of_le (Heap.lt_size q) bt))).trans ((k1 b (Nat.ne_of_lt (Nat.lt_of_lt_of_le (Heap.lt_size q) M.new))).trans (M.keep b o q))
  have nd : H dd = none := I.hok.fresh M.dbig
  have ne0 : H e = none := I.hok.fresh M.new
  have nt0 : H t = none := I.hok.fresh bt
  have ob : ObjOk X.prog X.w (upd H dd (.xd [(f, vv)])) G0 dd (.xd [(f, vv)]) := ⟨_, ns.at (fun o q => (k0 dd (Ne.symm ntd)).trans ((k1 dd M.dne).trans q)), fun g => relO_x rv g⟩
  have J : Inv X pins σ (upd H dd (.xd [(f, vv)])) ⟨G0, g, dr, tk', os⟩ := I.laid (t' := tk') old M.dbig ob
  have nt1 : upd H dd (.xd [(f, vv)]) t = none := by rw [upd_ne ntd]; exact nt0
  have J1 : Inv X pins σ (upd (upd H dd (.xd [(f, vv)])) t (.tup [.str m])) ⟨G1, g, dr, tk', os⟩ := J.laidN (t' := tk') sub0 gt nt1 ⟨by rw [lineEq]; exact (by simp), _, .cons ⟨km, rfl⟩ .nil, ⟨_, (k1 t nt).trans ot, rfl, _, rfl⟩⟩
  have ne1 : upd (upd H dd (.xd [(f, vv)])) t (.tup [.str m]) e = none := by rw [upd_ne (Ne.symm nt), upd_ne (Ne.symm M.dne)]; exact ne0
  have J2 : Inv X pins σ (upd (upd (upd H dd (.xd [(f, vv)])) t (.tup [.str m])) e (ExV (.ref C) e dd t)) ⟨h', g, dr, tk', os⟩ := J1.laidN (t' := tk') sub1 ge ne1 (exV_ok oe rfl rfl rfl rfl rfl)
  have x1 : Ext α H α (upd H dd (.xd [(f, vv)])) := Ext.side nd
  have x2 : Ext α (upd H dd (.xd [(f, vv)])) α (upd (upd H dd (.xd [(f, vv)])) t (.tup [.str m])) := Ext.side nt1
  have x3 : Ext α (upd (upd H dd (.xd [(f, vv)])) t (.tup [.str m])) α (upd (upd (upd H dd (.xd [(f, vv)])) t (.tup [.str m])) e (ExV (.ref C) e dd t)) := Ext.side ne1
  refine ⟨.ref e, _, J2, rfl, fi α _ (.ref e) ((x1.trans x2).trans x3) (((rh.side nd).side nt1).side ne1) ?_⟩
  unfold RelD
  exact ⟨e, dd, t, C, vv, rfl, by rw [hR]; exact Z.T.gC, upd_same, by rw [upd_ne nt, upd_same], by rw [upd_ne M.dne, upd_ne (Ne.symm ntd), upd_same], RelD.ext ((x1.trans x2).trans x3) _ _ rd⟩
variable {p pos : Pos}
theorem de_mkP {e : Expr} {fe : Fe} (XB : MiX.XBase B newId initId bmB) (Z : XcV X.K X.mg c f b m od C fI newId initId bmB) (hr : RoomG k X.A) (hR : R.mg = X.mg) (he : DE X R W e fe) (hg : Gl X c) (hcd : (c == ("__debug__" : Str)) = false := by decide)
    (hs : starEach [e] X.env = (false, eval e X.env) :: starEach [] X.env := by rfl) (hpl : (backTo pos (starEach [] X.env)).any (·.1) = false := by rfl) : DE X R W (.Call (.Name c p) [e] [] pos) (eMk c f m fe) := by
  refine ⟨fun pins s σ H Q I h => ?_⟩
  obtain ⟨α, env, hp, re, rh, fi⟩ := h
  have ha : PA X [e] (tCons (tE R W fe) tNil) := pa_cons he pa_nil hs
  refine wpAny_Call_Name_kw (ld_glob I hg Z.T.gC ?_ hcd)
  refine PySem.W.callWith_K (h₀ := X.base) I.ok.mod.kin Z.T.kC (thn (ha.run pos pins s σ H (fun vs H1 => ∃ v, vs = [v] ∧ ∃ d α1 h1, Ext α H α1 H1 ∧ RH R α1 h1 H1 ∧ RelD R α1 H1 d v ∧ FinE R W α1 H1 σ (Res.ok (D.exv c f d m) h1) Q) I ?_) fun us s1 ⟨vs, H1, I1, r1, q1⟩ => ⟨I1.kIn, ?_⟩) hs hpl
  · exact ⟨α, env, hp, re, rh, (Fin.split (Rl := RelD R) (g := fun v h1 => (Res.ok (D.exv c f v m) h1 : Res D)) fi).imp fun v H1 hq => ⟨v, rfl, by
      obtain ⟨d, α1, h1, _, x1, rh1, rd, f1⟩ := hq
      exact ⟨d, α1, h1, x1, rh1, rd, f1⟩⟩⟩
  · obtain ⟨v, rfl, d, α1, h1, x1, rh1, rd, f1⟩ := q1
    obtain ⟨u, rfl, ru⟩ := r1.one
    refine wpAny_call (codeAny_mono (run_mk (am := .pos) XB Z hr hR I1 ru rd rh1 (fun z => nomatch z) f1) fun r s' hq => ?_)
    obtain ⟨u', rfl, q⟩ := hq
    exact q
theorem de_mk0 (XB : MiX.XBase B newId initId bmB) (Z : XcV X.K X.mg c f b m true C fI newId initId bmB) (hr : RoomG k X.A) (hR : R.mg = X.mg) (hg : Gl X c) (hcd : (c == ("__debug__" : Str)) = false := by decide) : DE X R W (.Call (.Name c p) [] [] pos) (eMk c f m (eC .non)) := by
  refine ⟨fun pins s σ H Q I h => ?_⟩
  obtain ⟨α, env, hp, re, rh, fi⟩ := h
  refine wpAny_Call_Name_kw (ld_glob I hg Z.T.gC ?_ hcd)
  refine PySem.W.callWith_K0 I.kIn Z.T.kC ?_
  refine wpAny_call (codeAny_mono (run_mk (am := .dfl) (v := .none) (vv := .non) (d := .non) XB Z hr hR I rfl .non rh (fun _ => ⟨rfl, rfl⟩) fi) fun r s' hq => ?_)
  obtain ⟨u', rfl, q⟩ := hq
  exact q
theorem de_mkK {e : Expr} {fe : Fe} {kp : Pos} (XB : MiX.XBase B newId initId bmB) (Z : XcV X.K X.mg c f b m od C fI newId initId bmB) (hr : RoomG k X.A) (hR : R.mg = X.mg) (he : DE X R W e fe) (hg : Gl X c) (hcd : (c == ("__debug__" : Str)) = false := by decide)
    (hall : (backToKw pos (keywordEach [⟨some f, e, kp⟩] X.env)).all (·.1.isSome) = true := by rfl) (hks : (backToKw pos (keywordEach [⟨some f, e, kp⟩] X.env)).filterMap (·.1) = [f] := by rfl)
    (hpl : ((backTo pos (starEach [] X.env)).any (·.1) || (backToKw pos (keywordEach [⟨some f, e, kp⟩] X.env)).any (·.1.isNone)) = false := by rfl) : DE X R W (.Call (.Name c p) [] [⟨some f, e, kp⟩] pos) (eMk c f m fe) := by
  refine ⟨fun pins s σ H Q I h => ?_⟩
  obtain ⟨α, env, hp, re, rh, fi⟩ := h
  have ha : PK X [⟨some f, e, kp⟩] (tCons (tE R W fe) tNil) := pk_cons he pk_nil
  refine wpAny_Call_Name_kw (ld_glob I hg Z.T.gC ?_ hcd)
  refine PySem.W.callWith_KW0 (h₀ := X.base) I.ok.mod.kin Z.T.kC hall (thn (ha.run pos pins s σ H (fun vs H1 => ∃ v, vs = [v] ∧ ∃ d α1 h1, Ext α H α1 H1 ∧ RH R α1 h1 H1 ∧ RelD R α1 H1 d v ∧ FinE R W α1 H1 σ (Res.ok (D.exv c f d m) h1) Q) I ?_) fun us s1 ⟨vs, H1, I1, r1, q1⟩ => ⟨I1.kIn, ?_⟩) hpl
  · exact ⟨α, env, hp, re, rh, (Fin.split (Rl := RelD R) (g := fun v h1 => (Res.ok (D.exv c f v m) h1 : Res D)) fi).imp fun v H1 hq => ⟨v, rfl, by
      obtain ⟨d, α1, h1, _, x1, rh1, rd, f1⟩ := hq
      exact ⟨d, α1, h1, x1, rh1, rd, f1⟩⟩⟩
  · obtain ⟨v, rfl, d, α1, h1, x1, rh1, rd, f1⟩ := q1
    obtain ⟨u, rfl, ru⟩ := r1.one
    rw [hks]
    refine wpAny_call (codeAny_mono (run_mk (am := .kw) XB Z hr hR I1 ru rd rh1 (fun z => nomatch z) f1) fun r s' hq => ?_)
    obtain ⟨u', rfl, q⟩ := hq
    exact q
/-! ### its field, its kind, its text -/
/-- the own classes c and their facts -/
def XVs (X : Cx) (cs : List Str) : Prop := ∀ c ∈ cs, ∃ f b m od C fI newId initId bmB, XcV X.K X.mg c f b m od C fI newId initId bmB
theorem exv_at {a : Value} {v : V} {d : D} {c' f' : Str} {m' : Str} (I : Inv X pins σ H s) (ru : RelV v a) (hR : R.mg = X.mg) (rd : RelD R α H (.exv c' f' d m') v) {cs : List Str} (hc : c' ∈ cs) (hX : XVs X cs) :
    ∃ (x C dd : Addr) (v' : V) (f b m : Str) (od : Bool) (fI : Addr) (newId initId : String) (bmB : List Value) (oe : Obj) (vs : Array Value) (t : Addr), a = .ref x ∧ v = .ref x ∧ XcV X.K X.mg c' f b m od C fI newId initId bmB ∧ RelD R α H d v' ∧ H dd = some (.xd [(f', v')]) ∧
      s.heap.get? x = some oe ∧ oe.cls = .ref C ∧ oe.dict = some dd ∧ oe.data = .fields vs ∧ vs[0]? = some (.ref t) ∧ H t = some (.tup [.str m']) ∧ X.mg c' = some (.ref C) := by
  unfold RelD at rd
  obtain ⟨x, dd, t, C, v', rfl, g1, g2, g5, g3, g4⟩ := rd
  obtain rfl : a = Value.ref x := ru
  obtain ⟨f, b, m, od, C2, fI, newId, initId, bmB, Z⟩ := hX c' hc
  rw [hR, Z.T.gC] at g1
  cases g1
  obtain ⟨⟨oe, vs, e, e1, e2, e3, e4, e5⟩, _, _⟩ := I.hok x _ g2
  exact ⟨x, _, dd, v', f, b, m, od, fI, newId, initId, bmB, oe, vs, t, rfl, rfl, Z, g4, g3, e, e1, e2, e3, e4, g5, Z.T.gC⟩
@[simp] def eFldV (f : Str) (cs : List Str) (fe : Fe) : Fe := fun env h => (fe env h).bind fun d h1 => match d with
  | .exv c g v _ => if (g == f && cs.contains c) = true then .ok v h1 else .no
  | _ => .no
theorem de_fldV {e : Expr} {fe : Fe} {cs : List Str} {f : Str} (hR : R.mg = X.mg) (hX : XVs X cs) (hf : ∀ c ∈ cs, ∀ C, X.mg c = some (.ref C) → PySem.W.findIn X.K (.ref C) f = some none) (he : DE X R W e fe) (hb : attributeBase e f X.env (eval e X.env) = eval e X.env := by rfl) :
    DE X R W (.Attribute e f pos) (eFldV f cs fe) := by
  refine ⟨fun pins s σ H Q I h => ?_⟩
  obtain ⟨α, env, hp, re, rh, fi⟩ := h
  refine attr_of hb (thn (he.run pins s σ H _ I ⟨α, env, hp, re, rh, Fin.split fi⟩) fun u s1 hh => ?_)
  obtain ⟨v, H1, I1, ru, d, α1, h1, _, x1, rh1, rd, f1⟩ := hh
  cases d with
  | exv c g dv m' =>
    dsimp only at f1
    split at f1
    · rename_i hk
      rw [Bool.and_eq_true, beq_iff_eq] at hk
      obtain ⟨rfl, hcs⟩ := hk
      have hcs : c ∈ cs := by simpa using hcs
      obtain ⟨x, C, dd, v', f0, b0, m0, od0, fI0, n0, i0, bm0, oe, vs, t, rfl, rfl, Z, rd', hx, e, e1, e2, e3, e4, e6, gc⟩ := exv_at I1 ru hR rd hcs hX
      have ox : ObjOk X.prog X.w H1 s1.heap dd (.xd [(g, v')]) := I1.hok dd _ hx
      obtain ⟨mA, hns, hr⟩ := ox
      obtain ⟨od, ho, hl⟩ := lookIn_ns hns
      have l : List.lookup g [(g, v')] = some v' := by simp [List.lookup]
      obtain ⟨u, hu, ru⟩ := L2.RelO.some_of (v := v') (o := mA g) (by rw [← l]; exact hr g)
      have J : PySem.W.InstAt s1.heap x oe C (some od) := ⟨e, e1, by unfold PySem.W.notCls; rw [e3] <;> rfl, by rw [e2]; exact ho⟩
      exact HandSPX.exc_get I1.kIn J Z.T.ga Z.T.gg Z.T.exC (PySem.W.findObj_own Z.T.hd (hf c hcs C Z.T.gC) rfl (by rw [hl, hu])) (handed_of ru) ⟨v', H1, I1.tok _, ru, f1 α1 H1 v' .refl rh1 rd'⟩
    · exact f1.elim
  | _ => exact (show False from f1).elim
/-- isinstance(e, C) -/
def gIsX (cs : List Str) (isOf : Str → D → Option Bool) : List D → Hd → Res D := fun ds h => match ds with
  | [.exv c _ _ _, y] => if cs.contains c = true then (match isOf c y with
    | some b => .ok (.bl b) h
    | none => .no) else .no
  | _ => .no
/-- the D-value of a class as the model has it -/
def clsV (mg : Str → Option Value) : D → Option Value
  | .gl x => mg x
  | .ty T => some (.type T)
  | _ => none
theorem cd_isx {cs : List Str} {isOf : Str → D → Option Bool} (hR : R.mg = X.mg) (hX : XVs X cs) (hn : PySem.W.specialIn X.K (.builtin "object.__class__") "__get__" = some (some (.builtin "getset_descriptor.__get__"))) (ht : PySem.W.takesIn X.K (.builtin "object.__class__") = some true)
    (hy : ∀ c y b, isOf c y = some b → (∃ x, y = .gl x) ∨ ∃ T, y = .ty T) (hi : ∀ c y b, c ∈ cs → isOf c y = some b → ∀ C u, X.mg c = some (.ref C) → clsV X.mg y = some u → PySem.W.kitOne X.K (.ref C) u = some b) : CallD X R (.builtin "isinstance") (gIsX cs isOf) := by
  intro ds α h H vs W σ Q rh rd f
  refine ⟨fun xs H Q => xs = vs ∧ RelDs R α H ds xs ∧ RH R α h H ∧ FinE R W α H σ (gIsX cs isOf ds h) Q, fun pins s σ' H' xs us Q' I ru hq => ?_, rfl, rd, rh, f⟩
  obtain ⟨rfl, rd, rh, f⟩ := hq
  have shape : ∃ c g dv m' y b, ds = [.exv c g dv m', y] ∧ c ∈ cs ∧ isOf c y = some b ∧ FinE R W α H' σ (.ok (.bl b) h) Q' := by
    unfold gIsX at f
    split at f
    · split at f
      · rename_i hcs
        split at f
        · rename_i b eb
          exact ⟨_, _, _, _, _, b, rfl, by simpa using hcs, eb, f⟩
        · exact (show False from f).elim
      · exact (show False from f).elim
    · exact (show False from f).elim
  obtain ⟨c, g, dv, m', y, b, rfl, hcs, eb, f⟩ := shape
  obtain ⟨v1, v2, rfl, r1, r2⟩ := rd.two
  cases ru with
  | cons ru1 rr =>
  cases rr with
  | cons ru2 rn =>
  cases rn
  obtain ⟨x, C, dd, v', f0, b0, m0, od0, fI0, n0, i0, bm0, oe, vs, t, rfl, rfl, Z, rd', hx, e, e1, e2, e3, e4, e6, gc⟩ := exv_at I ru1 hR r1 hcs hX
  have cl : (PySem.W.clsIn X.K C).isSome = true := by
    have z := Z.T.hd
    unfold PySem.W.hasDictIn at z
    cases q : PySem.W.clsIn X.K C with
    | none => rw [q] at z; cases z
    | some _ => rfl
  obtain ⟨mA, hns, hr⟩ : ObjOk X.prog X.w H' s.heap dd (.xd [(g, v')]) := I.hok dd _ hx
  obtain ⟨od, ho, hl⟩ := lookIn_ns hns
  have J : PySem.W.InstAt s.heap x oe C (some od) := ⟨e, e1, by unfold PySem.W.notCls; rw [e3] <;> rfl, by rw [e2]; exact ho⟩
  have fin : ∀ u, clsV X.mg y = some u → wpAny (model X.prog X.w) X.A (call (.builtin "isinstance") [.ref x, u]) (EP X pins σ' Q') X.xe s := fun u hu =>
    PySem.W.kia_one (PySem.W.kitx_exc cl Z.T.ga Z.T.gg Z.T.exC Z.ga hn ht Z.mo) I.kIn J (hi c y b hcs eb C u Z.T.gC hu) (by intro z; cases z) fun tk => ⟨.bl b, H', I.tok _, rfl, f α H' _ .refl rh .bl⟩
  rcases hy c y b eb with ⟨z, rfl⟩ | ⟨T, rfl⟩
  · obtain ⟨a2, h1, rfl⟩ := r2.gl_inv
    rw [hR] at h1
    have e2 : _ = Value.ref a2 := ru2
    rw [e2]
    exact fin _ h1
  · rw [r2.ty_inv] at ru2
    have e2 : _ = Value.type T := ru2
    rw [e2]
    exact fin _ rfl
/-- str(e), str(text), str(int) -/
def gStr (cs : List Str) : List D → Hd → Res D := fun ds h => match ds with
  | [x] => (match x with
    | .str z => .ok (.str z) h
    | .int i => if i.natAbs.log2 < 1920 then .ok (.str (toString i)) h else .no
    | .exv c _ _ m => if cs.contains c = true then .ok (.str m) h else .no
    | _ => .no)
  | _ => .no
theorem cd_str {cs : List Str} (hR : R.mg = X.mg) (hu : X.A.units + 64 < cLine) (hX : XVs X cs) : CallD X R (.type "str") (gStr cs) := by
  intro ds α h H vs W σ Q rh rd f
  refine ⟨fun xs H Q => xs = vs ∧ RelDs R α H ds xs ∧ RH R α h H ∧ FinE R W α H σ (gStr cs ds h) Q, fun pins s σ' H' xs us Q' I ru hq => ?_, rfl, rd, rh, f⟩
  obtain ⟨rfl, rd, rh, f⟩ := hq
  have one : ∃ x, ds = [x] := by
    unfold gStr at f
    split at f
    · exact ⟨_, rfl⟩
    · exact (show False from f).elim
  obtain ⟨x, rfl⟩ := one
  obtain ⟨v, rfl, r1⟩ := rd.one
  obtain ⟨u, rfl, ru1⟩ := ru.one
  unfold gStr at f
  dsimp only at f
  cases x with
  | str z =>
    rw [r1.str_inv] at ru1
    obtain ⟨t, rfl⟩ := ru1
    exact P.str_of_str (show EP X pins σ' Q' (.str z t) s from ⟨.str z, H', I, ⟨t, rfl⟩, f α H' _ .refl rh .str⟩)
  | int i =>
    dsimp only at f
    split at f
    · rename_i hl
      rw [r1.int_inv] at ru1
      obtain ⟨t, rfl⟩ := ru1
      exact P.str_of_int hl (show EP X pins σ' Q' _ _ from ⟨.str (toString i), H', I.tok _, ⟨_, rfl⟩, f α H' _ .refl rh .str⟩)
    · exact (show False from f).elim
  | exv c g dv m' =>
    dsimp only at f
    split at f
    · rename_i hcs
      have hcs : c ∈ cs := by simpa using hcs
      obtain ⟨x, C, dd, v', f0, b0, m0, od0, fI0, n0, i0, bm0, oe, vs, t, rfl, rfl, Z, rd', hx, e, e1, e2, e3, e4, e6, gc⟩ := exv_at I ru1 hR r1 hcs hX
      obtain ⟨_, its, rv, ot, h1, h2, n, h3⟩ : ObjOk X.prog X.w H' s.heap t (.tup [.str m']) := I.hok t _ e6
      obtain ⟨w, ew, tk, rw_⟩ := rv.one
      subst ew
      have rw_ : w = .str m' tk := rw_
      subst rw_
      exact P.str_of_C_one (by omega) ⟨I.kIn, oe, vs, e, e1, e3, e4⟩ ⟨ot, n, h1, h2, h3⟩ Z.st Z.T.exC (show EP X pins σ' Q' (.str m' tk) s from ⟨.str m', H', I, ⟨tk, rfl⟩, f α H' _ .refl rh .str⟩)
    · exact (show False from f).elim
  | _ => exact (show False from f).elim
/-- a text in a text -/
def gInS : D → D → Hd → Res D := fun x y h => match x, y with
  | .str i, .str j => .ok (.bl (!(Builtin.Str.occurrences j i 0 j.length 1).isEmpty)) h
  | _, _ => .no
theorem od_inS : OpD X R (compareOp .In) gInS := by
  intro x y α h H vx vy W σ Q rh rx ry f
  unfold gInS at f
  split at f
  · rw [rx.str_inv, ry.str_inv]
    exact ⟨_, op_in_str, _, _, rfl, rfl, f α H _ .refl rh .bl⟩
  · exact (show False from f).elim
end
end Mi

set_option Elab.async false
set_option linter.all false
set_option maxRecDepth 100000
set_option maxHeartbeats 4000000
namespace Mi
open PySem PySem.Spec PyProof.Rows L2
open PySem.W (Frag)
/-! ### great powers, a text many times -/
def gPowB : D → D → Hd → Res D := fun x y h => match x, y with
  | .int i, .int j => if (decide (0 ≤ j) && decide ((Builtin.Int.intBits i : Int) * j ≤ 2 ^ 27)) = true then .ok (.int (i ^ j.toNat)) h else .no
  | _, _ => .no
instance decMulOk {x : Str} {n : Int} : Decidable (MulOk x n) := by unfold MulOk; infer_instance
def gMulS : D → D → Hd → Res D := fun x y h => match x, y with
  | .str x, .int k => if decide (MulOk x k) = true then .ok (.str (Txt.mul x k)) h else .no
  | _, _ => .no
section
variable {X : Cx} {R : Rx}
theorem od_powB : OpD X R (binaryOp .Pow) gPowB := by
  intro x y α h H vx vy W σ Q rh rx ry f
  refine ⟨fun x' y' H' Q' => ∃ i j : Int, x' = .int i ∧ y' = .int j ∧ 0 ≤ j ∧ (Builtin.Int.intBits i : Int) * j ≤ 2 ^ 27 ∧ Q' (.int (i ^ j.toNat)) H', fun pins s σ' H' x' y' v u Q' I r1 r2 hq => ?_, ?_⟩
  · obtain ⟨i, j, rfl, rfl, h1, h2, q⟩ := hq
    obtain ⟨t, rfl⟩ := r1
    obtain ⟨t2, rfl⟩ := r2
    exact pow_int h1 h2 (show EP X pins σ' Q' _ _ from ⟨.int (i ^ j.toNat), H', I.tok _, ⟨_, rfl⟩, q⟩)
  · unfold gPowB at f
    split at f
    · split at f
      · rename_i i j hm
        rw [Bool.and_eq_true, decide_eq_true_eq, decide_eq_true_eq] at hm
        exact ⟨i, j, rx.int_inv, ry.int_inv, hm.1, hm.2, f α H _ .refl rh .int⟩
      · exact f.elim
    · exact f.elim
theorem od_mulS : OpD X R (binaryOp .Mult) gMulS := by
  intro x y α h H vx vy W σ Q rh rx ry f
  refine ⟨fun x' y' H' Q' => ∃ (z : Str) (j : Int), x' = .str z ∧ y' = .int j ∧ MulOk z j ∧ Q' (.str (Txt.mul z j)) H', fun pins s σ' H' x' y' v u Q' I r1 r2 hq => ?_, ?_⟩
  · obtain ⟨i, j, rfl, rfl, h1, q⟩ := hq
    obtain ⟨t, rfl⟩ := r1
    obtain ⟨t2, rfl⟩ := r2
    exact SB.mul h1 fun t' k => (show EP X pins σ' Q' _ _ from ⟨.str (Txt.mul i j), H', I.tok _, ⟨_, rfl⟩, q⟩)
  · unfold gMulS at f
    split at f
    · split at f
      · rename_i z j hm
        exact ⟨z, j, rx.str_inv, ry.int_inv, of_decide_eq_true hm, f α H _ .refl rh .str⟩
      · exact f.elim
    · exact f.elim
end
/-! ### the facts of such classes -/
def xvB (c : Str) (K : Frag) : Bool := He.eqO (PySem.W.findIn K (.ref (He.ga K c)) "__class__") (some (some (.builtin "object.__class__"))) && (He.eqO (PySem.W.findIn K (.ref (He.ga K c)) "__str__") (some (some (.builtin "BaseException.__str__"))) && decide (PySem.W.mroIn K (He.ga K c) (.type "object") = some true))
section
variable {K : Frag} {mg : Str → Option Value} {c f b m : Str} {newId initId : String} {bm : List Value} {qual : Str} {dfl : List Expr} {j : Nat} {p1 p2 q1 q2 q3 q4 q5 q6 r1 r2 r3 r4 : Pos}
theorem xv_ok (T : MiX.XcTxt K mg c f b (He.ga K c) (He.ma K (He.ga K c) "__init__") newId initId bm) (q : xvB c K = true)
    (FD : ∃ fd, FunD K "__init__" qual (MiX.iA f dfl p1 p2) (MiX.iB f b m j q1 q2 q3 q4 q5 q6 r1 r2 r3 r4) (MiX.iS f b) [V.non] [] (He.ma K (He.ga K c) "__init__") fd)
    (hcall : ∀ env : PySem.Env, ∃ pl, eval (.Call (.Attribute (.Name b q1) "__init__" q2) [.Name "self" q3, .Constant (.str m) j q4] [] q5) env = (do
      let ov ← eval (.Name b q1) env
      standAt q2.atName
      let (f, first) ← holding [ov] (getMethod ov "__init__" pl)
      callWith q5 f first (backTo q5 (starEach [.Name "self" q3, .Constant (.str m) j q4] env)) (backToKw q5 (keywordEach [] env))))
    (h1 : ∀ (T : Addr) (kV doc pm : Value) (an : Option Addr) (cdv ct x v : Value) (its : List Value), its.length = 1 →
      ∃ k, bindArgs (PySem.W.fnOf "__init__" qual (MiX.iA f dfl p1 p2) (MiX.iB f b m j q1 q2 q3 q4 q5 q6 r1 r2 r3 r4) (MiX.iS f b) (.ref T) kV doc pm an cdv ct) ⟨[x, v], []⟩ = seqItems? (.ref T) >>= k ∧ k (some its.toArray) = pure ((["self", f] : List Str).zip [x, v]))
    (h2 : ∀ (T : Addr) (kV doc pm : Value) (an : Option Addr) (cdv ct x v : Value) (its : List Value), its.length = 1 →
      ∃ k, bindArgs (PySem.W.fnOf "__init__" qual (MiX.iA f dfl p1 p2) (MiX.iB f b m j q1 q2 q3 q4 q5 q6 r1 r2 r3 r4) (MiX.iS f b) (.ref T) kV doc pm an cdv ct) ⟨[x], [(f, v)]⟩ = seqItems? (.ref T) >>= k ∧ k (some its.toArray) = pure ((["self", f] : List Str).zip [x, v]))
    (h3 : ∀ (T : Addr) (kV doc pm : Value) (an : Option Addr) (cdv ct x i : Value),
      ∃ k, bindArgs (PySem.W.fnOf "__init__" qual (MiX.iA f dfl p1 p2) (MiX.iB f b m j q1 q2 q3 q4 q5 q6 r1 r2 r3 r4) (MiX.iS f b) (.ref T) kV doc pm an cdv ct) ⟨[x], []⟩ = seqItems? (.ref T) >>= k ∧ k (some #[i]) = pure ((["self", f] : List Str).zip [x, i])) :
    MiX.XcV K mg c f b m true (He.ga K c) (He.ma K (He.ga K c) "__init__") newId initId bm := by
  obtain ⟨a1, q⟩ := He.ba q
  obtain ⟨a2, a3⟩ := He.ba q
  obtain ⟨fd, FD⟩ := FD
  refine ⟨T, He.eqO_ok a1, He.eqO_ok a2, of_decide_eq_true a3, qual, dfl, j, p1, p2, q1, q2, q3, q4, q5, q6, r1, r2, r3, r4, _, fd, FD, hcall, fun am x v s how X => ?_⟩
  obtain ⟨oc, od, dV, kV, doc, pm, an, cdv, ct, osl, rfl, lk, hcd, hD, hK⟩ := FD.ex
  rcases hD with ⟨e, _⟩ | ⟨_, T, o, its, m, rfl, lT, oT, rT⟩
  · cases e
  · obtain ⟨i, ei, ri⟩ := rT.one
    obtain rfl : i = Value.none := ri
    have l1 : its = [.none] := by simpa using ei
    cases am with
    | pos =>
      obtain ⟨k, e1, e2⟩ := h1 T kV doc pm an cdv ct x v its (by rw [l1]; rfl)
      exact BindsTo.of_looks fun M => by
        show PySem.W.Looks _ _ (bindArgs _ ⟨[x, v], []⟩) _
        rw [e1]
        exact looks_items X lT oT (.of_pure e2)
    | kw =>
      obtain ⟨k, e1, e2⟩ := h2 T kV doc pm an cdv ct x v its (by rw [l1]; rfl)
      exact BindsTo.of_looks fun M => by
        show PySem.W.Looks _ _ (bindArgs _ ⟨[x], [(f, v)]⟩) _
        rw [e1]
        exact looks_items X lT oT (.of_pure e2)
    | dfl =>
      obtain ⟨_, rfl⟩ := how rfl
      obtain ⟨k, e1, e2⟩ := h3 T kV doc pm an cdv ct x .none
      exact BindsTo.of_looks fun M => by
        show PySem.W.Looks _ _ (bindArgs _ ⟨[x], []⟩) _
        rw [e1]
        exact looks_items X lT oT (.of_pure (by rw [l1]; exact e2))
theorem xv_ok0 (T : MiX.XcTxt K mg c f b (He.ga K c) (He.ma K (He.ga K c) "__init__") newId initId bm) (q : xvB c K = true)
    (FD : ∃ fd, FunD K "__init__" qual (MiX.iA f [] p1 p2) (MiX.iB f b m j q1 q2 q3 q4 q5 q6 r1 r2 r3 r4) (MiX.iS f b) [] [] (He.ma K (He.ga K c) "__init__") fd)
    (hcall : ∀ env : PySem.Env, ∃ pl, eval (.Call (.Attribute (.Name b q1) "__init__" q2) [.Name "self" q3, .Constant (.str m) j q4] [] q5) env = (do
      let ov ← eval (.Name b q1) env
      standAt q2.atName
      let (f, first) ← holding [ov] (getMethod ov "__init__" pl)
      callWith q5 f first (backTo q5 (starEach [.Name "self" q3, .Constant (.str m) j q4] env)) (backToKw q5 (keywordEach [] env))))
    (h1 : ∀ (kV doc pm : Value) (an : Option Addr) (cdv ct x v : Value), bindArgs (PySem.W.fnOf "__init__" qual (MiX.iA f [] p1 p2) (MiX.iB f b m j q1 q2 q3 q4 q5 q6 r1 r2 r3 r4) (MiX.iS f b) .none kV doc pm an cdv ct) ⟨[x, v], []⟩ = pure ((["self", f] : List Str).zip [x, v]))
    (h2 : ∀ (kV doc pm : Value) (an : Option Addr) (cdv ct x v : Value), bindArgs (PySem.W.fnOf "__init__" qual (MiX.iA f [] p1 p2) (MiX.iB f b m j q1 q2 q3 q4 q5 q6 r1 r2 r3 r4) (MiX.iS f b) .none kV doc pm an cdv ct) ⟨[x], [(f, v)]⟩ = pure ((["self", f] : List Str).zip [x, v])) :
    MiX.XcV K mg c f b m false (He.ga K c) (He.ma K (He.ga K c) "__init__") newId initId bm := by
  obtain ⟨a1, q⟩ := He.ba q
  obtain ⟨a2, a3⟩ := He.ba q
  obtain ⟨fd, FD⟩ := FD
  refine ⟨T, He.eqO_ok a1, He.eqO_ok a2, of_decide_eq_true a3, qual, [], j, p1, p2, q1, q2, q3, q4, q5, q6, r1, r2, r3, r4, _, fd, FD, hcall, fun am x v s how X => ?_⟩
  obtain ⟨oc, od, dV, kV, doc, pm, an, cdv, ct, osl, rfl, lk, hcd, hD, hK⟩ := FD.ex
  rcases hD with ⟨_, rfl⟩ | ⟨e, _⟩
  · cases am with
    | pos => exact .of_eq (h1 kV doc pm an cdv ct x v)
    | kw => exact .of_eq (h2 kV doc pm an cdv ct x v)
    | dfl => exact absurd (how rfl).1 (by decide)
  · exact absurd rfl e
end
/-! ### which class is which: by a table -/
def isOf (bs : List (Str × List Str × List String)) (ts : List Str) (tys : List String) : Str → D → Option Bool := fun c y => match bs.lookup c with
  | some (own, blt) => (match y with
    | .gl t => if ts.contains t = true then some (own.contains t) else none
    | .ty T => if tys.contains T = true then some (blt.contains T) else none
    | _ => none)
  | none => none
theorem isOf_y {bs : List (Str × List Str × List String)} {ts : List Str} {tys : List String} : ∀ c y b, isOf bs ts tys c y = some b → (∃ x, y = .gl x) ∨ ∃ T, y = .ty T := fun c y b e => by
  unfold isOf at e
  split at e
  · split at e
    · exact .inl ⟨_, rfl⟩
    · exact .inr ⟨_, rfl⟩
    · cases e
  · cases e
def isB (bs : List (Str × List Str × List String)) (ts : List Str) (tys : List String) (K : Frag) : Bool :=
  (bs.all fun p => He.Fa.ok K (.glo p.1)) && ((ts.all fun t => He.Fa.ok K (.glo t)) && bs.all fun p => (ts.all fun t => decide (PySem.W.kitOne K (.ref (He.ga K p.1)) (.ref (He.ga K t)) = some (p.2.1.contains t))) && tys.all fun T => decide (PySem.W.kitOne K (.ref (He.ga K p.1)) (.type T) = some (p.2.2.contains T)))
theorem lookup_in {β : Type} : ∀ {l : List (Str × β)} {c : Str} {v : β}, l.lookup c = some v → (c, v) ∈ l
  | [], _, _, h => by cases h
  | (a, b) :: l, c, v, h => by
    rw [List.lookup_cons] at h
    by_cases e : (c == a) = true
    · rw [e] at h
      cases h
      rw [eq_of_beq e]
      exact List.mem_cons_self ..
    · rw [Bool.not_eq_true] at e
      rw [e] at h
      exact List.mem_cons_of_mem _ (lookup_in h)
theorem is_ok {K : Frag} {h : Heap} {mg : Str → Option Value} (X : K.In h) (G : h.Ns mainGlobals mg) {bs : List (Str × List Str × List String)} {ts : List Str} {tys : List String} (q : isB bs ts tys K = true) :
    ∀ c y b, isOf bs ts tys c y = some b → ∀ C u, mg c = some (.ref C) → clsV mg y = some u → PySem.W.kitOne K (.ref C) u = some b := fun c y b e C u hC hu => by
  obtain ⟨a1, q⟩ := He.ba q
  obtain ⟨a2, a3⟩ := He.ba q
  unfold isOf at e
  split at e
  · rename_i own blt l
    have mem := lookup_in l
    obtain ⟨k1, k2⟩ := He.ba (List.all_eq_true.mp a3 _ mem)
    have gc := He.glo_ok X G (List.all_eq_true.mp a1 _ mem)
    have gc : mg c = some (.ref (He.ga K c)) := gc
    rw [gc] at hC
    cases hC
    split at e
    · rename_i t
      split at e
      · rename_i ht
        have ht : t ∈ ts := by simpa using ht
        have gt := He.glo_ok X G (List.all_eq_true.mp a2 _ ht)
        have hu : mg t = some u := hu
        rw [gt] at hu
        cases hu
        cases e
        exact of_decide_eq_true (List.all_eq_true.mp k1 _ ht)
      · cases e
    · rename_i T
      split at e
      · rename_i ht
        have ht : T ∈ tys := by simpa using ht
        have hu : some (Value.type T) = some u := hu
        cases hu
        cases e
        exact of_decide_eq_true (List.all_eq_true.mp k2 _ ht)
      · cases e
    · cases e
  · cases e
def noB (f : Str) (cs : List Str) (K : Frag) : Bool := cs.all fun c => He.Fa.ok K (.glo c) && He.eqO (PySem.W.findIn K (.ref (He.ga K c)) f) (some none)
theorem no_ok {K : Frag} {h : Heap} {mg : Str → Option Value} (X : K.In h) (G : h.Ns mainGlobals mg) {f : Str} {cs : List Str} (q : noB f cs K = true) : ∀ c ∈ cs, ∀ C, mg c = some (.ref C) → PySem.W.findIn K (.ref C) f = some none := fun c hc C hC => by
  obtain ⟨a1, a2⟩ := He.ba (List.all_eq_true.mp q _ hc)
  rw [He.glo_ok X G a1] at hC
  cases hC
  exact He.eqO_ok a2
def gsB (K : Frag) : Bool := He.eqO (PySem.W.specialIn K (.builtin "object.__class__") "__get__") (some (some (.builtin "getset_descriptor.__get__"))) && decide (PySem.W.takesIn K (.builtin "object.__class__") = some true)
theorem gs_ok {K : Frag} (q : gsB K = true) : PySem.W.specialIn K (.builtin "object.__class__") "__get__" = some (some (.builtin "getset_descriptor.__get__")) ∧ PySem.W.takesIn K (.builtin "object.__class__") = some true := by
  obtain ⟨a1, a2⟩ := He.ba q
  exact ⟨He.eqO_ok a1, of_decide_eq_true a2⟩
end Mi

set_option Elab.async false
set_option linter.all false
set_option maxRecDepth 100000
set_option maxHeartbeats 1000000
namespace Mi
open PySem PySem.Spec PyProof.Rows L2
/-! ### loops over a list that is left alone -/
theorem getD_mem {xs : List D} {i : Nat} (hi : i < xs.length) : xs.getD i .non ∈ xs := by
  rw [List.getD_eq_getElem?_getD, List.getElem?_eq_getElem hi, Option.getD_some]
  exact List.getElem_mem hi
theorem take_one {xs : List D} {i : Nat} (hi : i < xs.length) : xs.take (i + 1) = xs.take i ++ [xs.getD i .non] := by
  have e : xs.getD i .non = xs[i] := by rw [List.getD_eq_getElem?_getD, List.getElem?_eq_getElem hi, Option.getD_some]
  rw [e, List.take_append_getElem hi]
/-- a comprehension whose source is src, its items xs -/
theorem lc_src {src : Src} {tg : Fg} {tst : Ft} {el : Fe} {env : En} {h : Hd} {xs : List D} (g : D → List D) (item : ∀ i h1, i < xs.length → Kp [] h h1 → src h1 i = .item (xs.getD i .non)) (stop : ∀ h1, Kp [] h h1 → src h1 xs.length = .stop)
    (turn : ∀ d ∈ xs, ∀ h1, Kp [] h h1 → ∃ h2, turnC tg tst el env d h1 = .ok (g d) h2 ∧ Kp [] h1 h2) (hl : xs.length ≤ 16777216) :
    ∃ h', lcL src tg tst el env h.length most 0 (h ++ [.lst []]) = .ok (.ref h.length) h' ∧ Kp [] h h' ∧ h'[h.length]? = some (.lst (xs.flatMap g)) := by
  have key := lc_inv (src := src) (tg := tg) (tst := tst) (el := el) (env := env) (h := h) xs.length (fun i => xs.getD i .non) (fun i h1 acc => Kp [] h h1 ∧ acc = (xs.take i).flatMap g) ⟨Kp.app, rfl⟩ ?_ ?_ hl
  · obtain ⟨h', acc, e, e1, _, kp, e2⟩ := key
    rw [List.take_length] at e2
    subst e2
    exact ⟨h', e, kp, e1⟩
  · rintro i h1 acc hi ⟨kp, rfl⟩ q
    obtain ⟨h2, t, k2⟩ := turn _ (getD_mem hi) h1 kp
    refine ⟨item i h1 hi kp, g (xs.getD i .non), h2, t, k2.at_ _ _ (by simp) q, (kp.trans k2).setNew (Nat.le_refl _), ?_⟩
    rw [take_one hi, List.flatMap_append, List.flatMap_cons, List.flatMap_nil, List.append_nil]
  · rintro h1 acc ⟨kp, _⟩ _
    exact stop h1 kp
theorem lc_ref {tg : Fg} {tst : Ft} {el : Fe} {env : En} {h : Hd} {a : Nat} {xs : List D} (g : D → List D) (ha : h[a]? = some (.lst xs))
    (turn : ∀ d ∈ xs, ∀ h1, Kp [] h h1 → ∃ h2, turnC tg tst el env d h1 = .ok (g d) h2 ∧ Kp [] h1 h2) (hl : xs.length ≤ 16777216) :
    ∃ h', lcL (liveS a) tg tst el env h.length most 0 (h ++ [.lst []]) = .ok (.ref h.length) h' ∧ Kp [] h h' ∧ h'[h.length]? = some (.lst (xs.flatMap g)) :=
  lc_src g (fun i h1 hi kp => live_item (.inl (kp.at_ _ _ (by simp) ha)) hi) (fun h1 kp => live_stop (.inl (kp.at_ _ _ (by simp) ha))) turn hl
theorem lc_tup {tg : Fg} {tst : Ft} {el : Fe} {env : En} {h : Hd} {xs : List D} (g : D → List D)
    (turn : ∀ d ∈ xs, ∀ h1, Kp [] h h1 → ∃ h2, turnC tg tst el env d h1 = .ok (g d) h2 ∧ Kp [] h1 h2) (hl : xs.length ≤ 16777216) :
    ∃ h', lcL (fixS xs) tg tst el env h.length most 0 (h ++ [.lst []]) = .ok (.ref h.length) h' ∧ Kp [] h h' ∧ h'[h.length]? = some (.lst (xs.flatMap g)) :=
  lc_src g (fun i h1 hi kp => fix_item hi) (fun h1 kp => fix_stop) turn hl
/-- a for loop over items xs that keeps J -/
theorem for_src {src : Src} {tg : Fg} {body : Fs} {env : En} {h : Hd} {xs : List D} (J : En → Hd → Prop) (j0 : J env h) (item : ∀ i env1 h1, i < xs.length → J env1 h1 → src h1 i = .item (xs.getD i .non)) (stop : ∀ env1 h1, J env1 h1 → src h1 xs.length = .stop)
    (turn : ∀ d ∈ xs, ∀ env1 h1, J env1 h1 → ∃ env2 h2, stepS tg body d env1 h1 = .nx env2 h2 ∧ J env2 h2) (hl : xs.length ≤ 16777216) :
    ∃ env' h', forL src tg body most 0 env h = .nx env' h' ∧ J env' h' :=
  for_inv (src := src) (tg := tg) (body := body) xs.length (fun i => xs.getD i .non) (fun _ => J) j0 (fun i env1 h1 hi j => ⟨item i env1 h1 hi j, turn _ (getD_mem hi) env1 h1 j⟩) (fun env1 h1 j => stop env1 h1 j) (by rw [most_eq]; omega)
theorem for_ref {tg : Fg} {body : Fs} {env : En} {h : Hd} {a : Nat} {xs : List D} (J : En → Hd → Prop) (j0 : J env h) (ha : h[a]? = some (.lst xs)) (kp : ∀ env1 h1, J env1 h1 → h1[a]? = some (.lst xs))
    (turn : ∀ d ∈ xs, ∀ env1 h1, J env1 h1 → ∃ env2 h2, stepS tg body d env1 h1 = .nx env2 h2 ∧ J env2 h2) (hl : xs.length ≤ 16777216) :
    ∃ env' h', forL (liveS a) tg body most 0 env h = .nx env' h' ∧ J env' h' :=
  for_src J j0 (fun i env1 h1 hi j => live_item (.inl (kp env1 h1 j)) hi) (fun env1 h1 j => live_stop (.inl (kp env1 h1 j))) turn hl
theorem for_tup {tg : Fg} {body : Fs} {env : En} {h : Hd} {xs : List D} (J : En → Hd → Prop) (j0 : J env h)
    (turn : ∀ d ∈ xs, ∀ env1 h1, J env1 h1 → ∃ env2 h2, stepS tg body d env1 h1 = .nx env2 h2 ∧ J env2 h2) (hl : xs.length ≤ 16777216) :
    ∃ env' h', forL (fixS xs) tg body most 0 env h = .nx env' h' ∧ J env' h' :=
  for_src J j0 (fun i env1 h1 hi j => fix_item hi) (fun env1 h1 j => fix_stop) turn hl
/-! ### small steps -/
theorem if_no {c : Ft} {f g : Fs} {env : En} {h h' : Hd} (e : c env h = .ok false h') : sIf c f g env h = g env h' := (if_ok e).trans (by rw [if_neg (by decide)])
theorem if_yes {c : Ft} {f g : Fs} {env : En} {h h' : Hd} (e : c env h = .ok true h') : sIf c f g env h = f env h' := (if_ok e).trans (by rw [if_pos rfl])
theorem or_no {a b : Ft} {env : En} {h h1 h2 : Hd} {r : Bool} (e : a env h = .ok false h1) (e2 : b env h1 = .ok r h2) : tOrD a b env h = .ok r h2 := by
  show (a env h).bind _ = _
  rw [e]
  exact e2
theorem lst_ok {fa : Fa} {env : En} {h h1 : Hd} {xs : List D} (e : fa env h = .ok xs h1) (hl : xs.length ≤ 1000) : eLst fa env h = .ok (.ref h1.length) (h1 ++ [.lst xs]) := by
  show (fa env h).bind _ = _
  rw [e]
  show (if xs.length ≤ 16777216 then _ else _) = _
  rw [if_pos (by omega)]
theorem tup_ok {fa : Fa} {env : En} {h h1 : Hd} {xs : List D} (e : fa env h = .ok xs h1) (hl : xs.length ≤ 1000) : eTup fa env h = .ok (.tup xs) h1 := by
  show (fa env h).bind _ = _
  rw [e]
  show (if xs.length ≤ 16777216 then _ else _) = _
  rw [if_pos (by omega)]
theorem cat_lst {a b : Nat} {xs ys : List D} {h : Hd} (e : h[a]? = some (.lst xs)) (e2 : h[b]? = some (.lst ys)) (hl : xs.length + ys.length ≤ 1000) : gAdd (.ref a) (.ref b) h = .ok (.ref h.length) (h ++ [.lst (xs ++ ys)]) := by
  show (match h[a]?, h[b]? with
    | some (.lst xs), some (.lst ys) => if xs.length + ys.length ≤ 16777216 then Res.ok (D.ref h.length) (h ++ [Ob.lst (xs ++ ys)]) else .no
    | _, _ => .no) = _
  rw [e, e2]
  show (if xs.length + ys.length ≤ 16777216 then _ else _) = _
  rw [if_pos (by omega)]
theorem walk_ref {a : Nat} {xs : List D} {h : Hd} (e : h[a]? = some (.lst xs)) : walk1 (.ref a) h = .ok (liveS a) h := by
  show (match h[a]? with
    | some (.lst _) => Res.ok (liveS a) h
    | some (.fro _) => .ok (liveS a) h
    | _ => .no) = _
  rw [e]
theorem iOf_ref {fe : Fe} {env : En} {a : Nat} {xs : List D} {h h1 : Hd} (e1 : fe env h = .ok (.ref a) h1) (e : h1[a]? = some (.lst xs)) : iOf fe env h = .ok (liveS a) h1 := by
  show (fe env h).bind walk1 = _
  rw [e1]
  exact walk_ref e
theorem iOf_tup {fe : Fe} {env : En} {xs : List D} {h h1 : Hd} (e1 : fe env h = .ok (.tup xs) h1) : iOf fe env h = .ok (fixS xs) h1 := by
  show (fe env h).bind walk1 = _
  rw [e1]
  rfl
theorem at_new {h : Hd} {o : Ob} : (h ++ [o])[h.length]? = some o := by simp
theorem seq_rt {f g : Fs} {env : En} {h h1 : Hd} {d : D} (e : f env h = .rt d h1) : sSeq f g env h = .rt d h1 := by
  show (match f env h with
    | .nx env1 h1 => g env1 h1
    | r => r) = _
  rw [e]
end Mi

set_option Elab.async false
set_option linter.all false
set_option maxRecDepth 100000
set_option maxHeartbeats 4000000
namespace Lw
open PySem PySem.Spec PyProof.Rows L2 Mi
abbrev Pg : Program := PySem.Challenge.pw_alwayswhole_k99_errors_by_hand
def top (i : Nat) : Stmt := PySem.Challenge.pw_alwayswhole_k99_errors_by_hand.main.body.getD i (.Pass ⟨0, 0, 0, 0⟩)
def cBody (s : Stmt) : List Stmt := match s with
  | .ClassDef (body := b) .. => b
  | _ => []
/-! ### _law_draw -/
abbrev st__law_draw : Stmt := top 23
def N__law_draw : List Str := ["cell", "k"]
def p__law_draw : List Str := ["cell", "k"]
theorem sc__law_draw : FnScope N__law_draw p__law_draw (defScope st__law_draw) := ⟨rfl, rfl, rfl, by decide +kernel, rfl, by decide +kernel, by decide +kernel⟩
def d__law_draw : He.DefD := ⟨("_law_draw", none), "_law_draw", "_law_draw", defArgs st__law_draw, defBody st__law_draw, defScope st__law_draw, [], []⟩
/-! ### _law_mixed -/
abbrev st__law_mixed : Stmt := top 22
def N__law_mixed : List Str := ["cell", "k", "number"]
def p__law_mixed : List Str := ["cell", "k"]
theorem sc__law_mixed : FnScope N__law_mixed p__law_mixed (defScope st__law_mixed) := ⟨rfl, rfl, rfl, by decide +kernel, rfl, by decide +kernel, by decide +kernel⟩
def d__law_mixed : He.DefD := ⟨("_law_mixed", none), "_law_mixed", "_law_mixed", defArgs st__law_mixed, defBody st__law_mixed, defScope st__law_mixed, [], []⟩
/-! ### _law_digit -/
abbrev st__law_digit : Stmt := top 24
def N__law_digit : List Str := ["state", "below", "j", "found"]
def p__law_digit : List Str := ["state", "below"]
theorem sc__law_digit : FnScope N__law_digit p__law_digit (defScope st__law_digit) := ⟨rfl, rfl, rfl, by decide +kernel, rfl, by decide +kernel, by decide +kernel⟩
def d__law_digit : He.DefD := ⟨("_law_digit", none), "_law_digit", "_law_digit", defArgs st__law_digit, defBody st__law_digit, defScope st__law_digit, [], []⟩
/-! ### _law_valued -/
abbrev st__law_valued : Stmt := top 26
def N__law_valued : List Str := ["thing", "found"]
def p__law_valued : List Str := ["thing"]
theorem sc__law_valued : FnScope N__law_valued p__law_valued (defScope st__law_valued) := ⟨rfl, rfl, rfl, by decide +kernel, rfl, by decide +kernel, by decide +kernel⟩
def d__law_valued : He.DefD := ⟨("_law_valued", none), "_law_valued", "_law_valued", defArgs st__law_valued, defBody st__law_valued, defScope st__law_valued, [], []⟩
/-! ### _law_kinds -/
abbrev st__law_kinds : Stmt := top 25
def N__law_kinds : List Str := ["e", "some", "word", "is_so"]
def p__law_kinds : List Str := ["e"]
theorem sc__law_kinds : FnScope N__law_kinds p__law_kinds (defScope st__law_kinds) := ⟨rfl, rfl, rfl, by decide +kernel, rfl, by decide +kernel, by decide +kernel⟩
def d__law_kinds : He.DefD := ⟨("_law_kinds", none), "_law_kinds", "_law_kinds", defArgs st__law_kinds, defBody st__law_kinds, defScope st__law_kinds, [], []⟩
/-! ### _law_placed -/
abbrev st__law_placed : Stmt := top 27
def N__law_placed : List Str := ["thing", "found"]
def p__law_placed : List Str := ["thing"]
theorem sc__law_placed : FnScope N__law_placed p__law_placed (defScope st__law_placed) := ⟨rfl, rfl, rfl, by decide +kernel, rfl, by decide +kernel, by decide +kernel⟩
def d__law_placed : He.DefD := ⟨("_law_placed", none), "_law_placed", "_law_placed", defArgs st__law_placed, defBody st__law_placed, defScope st__law_placed, [], []⟩
/-! ### _law_right -/
abbrev st__law_right : Stmt := top 28
def N__law_right : List Str := ["thing", "one", "other", "name"]
def p__law_right : List Str := ["thing"]
theorem sc__law_right : FnScope N__law_right p__law_right (defScope st__law_right) := ⟨rfl, rfl, rfl, by decide +kernel, rfl, by decide +kernel, by decide +kernel⟩
def d__law_right : He.DefD := ⟨("_law_right", none), "_law_right", "_law_right", defArgs st__law_right, defBody st__law_right, defScope st__law_right, [], []⟩
/-! ### law -/
abbrev st_law : Stmt := top 29
def N_law : List Str := ["script", "k", "cell", "state", "number", "some", "others", "thing", "made", "e", "one", "other", "name"]
def p_law : List Str := ["script"]
theorem sc_law : FnScope N_law p_law (defScope st_law) := ⟨rfl, rfl, rfl, by decide +kernel, rfl, by decide +kernel, by decide +kernel⟩
def d_law : He.DefD := ⟨("law", none), "law", "law", defArgs st_law, defBody st_law, defScope st_law, [], []⟩
abbrev st_BadNumber_init : Stmt := (cBody (top 2)).getD 0 (.Pass ⟨0, 0, 0, 0⟩)
def d_BadNumber_init : He.DefD := ⟨("BadNumber", some "__init__"), "__init__", "BadNumber.__init__", defArgs st_BadNumber_init, defBody st_BadNumber_init, defScope st_BadNumber_init, [.non], []⟩
abbrev st_BadPoint_init : Stmt := (cBody (top 3)).getD 0 (.Pass ⟨0, 0, 0, 0⟩)
def d_BadPoint_init : He.DefD := ⟨("BadPoint", some "__init__"), "__init__", "BadPoint.__init__", defArgs st_BadPoint_init, defBody st_BadPoint_init, defScope st_BadPoint_init, [.non], []⟩
abbrev st_BadWeb_init : Stmt := (cBody (top 4)).getD 0 (.Pass ⟨0, 0, 0, 0⟩)
def d_BadWeb_init : He.DefD := ⟨("BadWeb", some "__init__"), "__init__", "BadWeb.__init__", defArgs st_BadWeb_init, defBody st_BadWeb_init, defScope st_BadWeb_init, [.non], []⟩
abbrev st_BadLaurent_init : Stmt := (cBody (top 5)).getD 0 (.Pass ⟨0, 0, 0, 0⟩)
def d_BadLaurent_init : He.DefD := ⟨("BadLaurent", some "__init__"), "__init__", "BadLaurent.__init__", defArgs st_BadLaurent_init, defBody st_BadLaurent_init, defScope st_BadLaurent_init, [.non], []⟩
abbrev st_BadSeed_init : Stmt := (cBody (top 6)).getD 0 (.Pass ⟨0, 0, 0, 0⟩)
def d_BadSeed_init : He.DefD := ⟨("BadSeed", some "__init__"), "__init__", "BadSeed.__init__", defArgs st_BadSeed_init, defBody st_BadSeed_init, defScope st_BadSeed_init, [.non], []⟩
abbrev st_BadRow_init : Stmt := (cBody (top 7)).getD 0 (.Pass ⟨0, 0, 0, 0⟩)
def d_BadRow_init : He.DefD := ⟨("BadRow", some "__init__"), "__init__", "BadRow.__init__", defArgs st_BadRow_init, defBody st_BadRow_init, defScope st_BadRow_init, [.non], []⟩
abbrev st_BadType_init : Stmt := (cBody (top 8)).getD 0 (.Pass ⟨0, 0, 0, 0⟩)
def d_BadType_init : He.DefD := ⟨("BadType", some "__init__"), "__init__", "BadType.__init__", defArgs st_BadType_init, defBody st_BadType_init, defScope st_BadType_init, [.non], []⟩
abbrev st_BadSurface_init : Stmt := (cBody (top 9)).getD 0 (.Pass ⟨0, 0, 0, 0⟩)
def d_BadSurface_init : He.DefD := ⟨("BadSurface", some "__init__"), "__init__", "BadSurface.__init__", defArgs st_BadSurface_init, defBody st_BadSurface_init, defScope st_BadSurface_init, [.non], []⟩
abbrev st_BadFrieze_init : Stmt := (cBody (top 10)).getD 0 (.Pass ⟨0, 0, 0, 0⟩)
def d_BadFrieze_init : He.DefD := ⟨("BadFrieze", some "__init__"), "__init__", "BadFrieze.__init__", defArgs st_BadFrieze_init, defBody st_BadFrieze_init, defScope st_BadFrieze_init, [.non], []⟩
abbrev st_BadPattern_init : Stmt := (cBody (top 11)).getD 0 (.Pass ⟨0, 0, 0, 0⟩)
def d_BadPattern_init : He.DefD := ⟨("BadPattern", some "__init__"), "__init__", "BadPattern.__init__", defArgs st_BadPattern_init, defBody st_BadPattern_init, defScope st_BadPattern_init, [.non], []⟩
abbrev st_BadCartan_init : Stmt := (cBody (top 12)).getD 0 (.Pass ⟨0, 0, 0, 0⟩)
def d_BadCartan_init : He.DefD := ⟨("BadCartan", some "__init__"), "__init__", "BadCartan.__init__", defArgs st_BadCartan_init, defBody st_BadCartan_init, defScope st_BadCartan_init, [.non], []⟩
abbrev st_BadRoot_init : Stmt := (cBody (top 13)).getD 0 (.Pass ⟨0, 0, 0, 0⟩)
def d_BadRoot_init : He.DefD := ⟨("BadRoot", some "__init__"), "__init__", "BadRoot.__init__", defArgs st_BadRoot_init, defBody st_BadRoot_init, defScope st_BadRoot_init, [.non], []⟩
abbrev st_BadTriple_init : Stmt := (cBody (top 14)).getD 0 (.Pass ⟨0, 0, 0, 0⟩)
def d_BadTriple_init : He.DefD := ⟨("BadTriple", some "__init__"), "__init__", "BadTriple.__init__", defArgs st_BadTriple_init, defBody st_BadTriple_init, defScope st_BadTriple_init, [.non], []⟩
abbrev st_BadMap_init : Stmt := (cBody (top 15)).getD 0 (.Pass ⟨0, 0, 0, 0⟩)
def d_BadMap_init : He.DefD := ⟨("BadMap", some "__init__"), "__init__", "BadMap.__init__", defArgs st_BadMap_init, defBody st_BadMap_init, defScope st_BadMap_init, [.non], []⟩
abbrev st_BadText_init : Stmt := (cBody (top 16)).getD 0 (.Pass ⟨0, 0, 0, 0⟩)
def d_BadText_init : He.DefD := ⟨("BadText", some "__init__"), "__init__", "BadText.__init__", defArgs st_BadText_init, defBody st_BadText_init, defScope st_BadText_init, [.non], []⟩
abbrev st_BadPaper_init : Stmt := (cBody (top 17)).getD 0 (.Pass ⟨0, 0, 0, 0⟩)
def d_BadPaper_init : He.DefD := ⟨("BadPaper", some "__init__"), "__init__", "BadPaper.__init__", defArgs st_BadPaper_init, defBody st_BadPaper_init, defScope st_BadPaper_init, [.non], []⟩
abbrev st_BadDeed_init : Stmt := (cBody (top 18)).getD 0 (.Pass ⟨0, 0, 0, 0⟩)
def d_BadDeed_init : He.DefD := ⟨("BadDeed", some "__init__"), "__init__", "BadDeed.__init__", defArgs st_BadDeed_init, defBody st_BadDeed_init, defScope st_BadDeed_init, [.non], []⟩
abbrev st_TooMany_init : Stmt := (cBody (top 19)).getD 0 (.Pass ⟨0, 0, 0, 0⟩)
def d_TooMany_init : He.DefD := ⟨("TooMany", some "__init__"), "__init__", "TooMany.__init__", defArgs st_TooMany_init, defBody st_TooMany_init, defScope st_TooMany_init, [], []⟩
abbrev st_NoSuch_init : Stmt := (cBody (top 20)).getD 0 (.Pass ⟨0, 0, 0, 0⟩)
def d_NoSuch_init : He.DefD := ⟨("NoSuch", some "__init__"), "__init__", "NoSuch.__init__", defArgs st_NoSuch_init, defBody st_NoSuch_init, defScope st_NoSuch_init, [.non], []⟩
def vcs : List Str := (["BadNumber", "BadPoint", "BadWeb", "BadLaurent", "BadSeed", "BadRow", "BadType", "BadSurface", "BadFrieze", "BadPattern", "BadCartan", "BadRoot", "BadTriple", "BadMap", "BadText", "BadPaper", "BadDeed", "TooMany", "NoSuch"] : List Str)
def fcs_value : List Str := (["BadNumber", "BadPoint", "NoSuch"] : List Str)
def fcs_place : List Str := (["BadWeb", "BadLaurent", "BadSeed", "BadRow", "BadType", "BadSurface", "BadFrieze", "BadPattern", "BadCartan", "BadRoot", "BadTriple", "BadMap", "BadText", "BadPaper", "BadDeed"] : List Str)
def fcs_most : List Str := (["TooMany"] : List Str)
def vts : List Str := (["WholeError", "BadNumber", "BadPoint", "BadWeb", "BadLaurent", "BadSeed", "BadRow", "BadType", "BadSurface", "BadFrieze", "BadPattern", "BadCartan", "BadRoot", "BadTriple", "BadMap", "BadText", "BadPaper", "BadDeed", "TooMany", "NoSuch"] : List Str)
def vtys : List String := ["ValueError", "LookupError", "OverflowError"]
def vbs : List (Str × List Str × List String) := [
  ("BadNumber", (["BadNumber", "WholeError"] : List Str), ["ValueError"]),
  ("BadPoint", (["BadPoint", "WholeError"] : List Str), ["ValueError"]),
  ("BadWeb", (["BadWeb", "WholeError"] : List Str), ["ValueError"]),
  ("BadLaurent", (["BadLaurent", "WholeError"] : List Str), ["ValueError"]),
  ("BadSeed", (["BadSeed", "WholeError"] : List Str), ["ValueError"]),
  ("BadRow", (["BadRow", "WholeError"] : List Str), ["ValueError"]),
  ("BadType", (["BadType", "WholeError"] : List Str), ["ValueError"]),
  ("BadSurface", (["BadSurface", "WholeError"] : List Str), ["ValueError"]),
  ("BadFrieze", (["BadFrieze", "WholeError"] : List Str), ["ValueError"]),
  ("BadPattern", (["BadPattern", "WholeError"] : List Str), ["ValueError"]),
  ("BadCartan", (["BadCartan", "WholeError"] : List Str), ["ValueError"]),
  ("BadRoot", (["BadRoot", "WholeError"] : List Str), ["ValueError"]),
  ("BadTriple", (["BadTriple", "WholeError"] : List Str), ["ValueError"]),
  ("BadMap", (["BadMap", "WholeError"] : List Str), ["ValueError"]),
  ("BadText", (["BadText", "WholeError"] : List Str), ["ValueError"]),
  ("BadPaper", (["BadPaper", "WholeError"] : List Str), ["ValueError"]),
  ("BadDeed", (["BadDeed", "WholeError"] : List Str), ["ValueError"]),
  ("TooMany", (["TooMany"] : List Str), ["OverflowError"]),
  ("NoSuch", (["NoSuch"] : List Str), ["LookupError"])]
/-! ### facts -/
def fs : List (PySem.W.Frag → Bool) := [
  fun K => He.Fa.ok K (.free "sum"),
  fun K => He.Fa.ok K (.free "enumerate"),
  fun K => He.Fa.ok K (.glo "_law_draw"),
  fun K => He.Fa.ok K (.free "range"),
  fun K => He.Fa.ok K (.glo "_law_mixed"),
  fun K => He.Fa.ok K (.glo "_law_digit"),
  xcB "BadNumber" "value" "WholeError" true "ValueError" "ValueError.__new__" "ValueError.__init__" He.veBase,
  fun K => He.Fa.ok K (.glo "BadNumber"),
  xvB "BadNumber",
  xcB "BadPoint" "value" "WholeError" true "ValueError" "ValueError.__new__" "ValueError.__init__" He.veBase,
  fun K => He.Fa.ok K (.glo "BadPoint"),
  xvB "BadPoint",
  xcB "BadWeb" "place" "WholeError" true "ValueError" "ValueError.__new__" "ValueError.__init__" He.veBase,
  fun K => He.Fa.ok K (.glo "BadWeb"),
  xvB "BadWeb",
  xcB "BadLaurent" "place" "WholeError" true "ValueError" "ValueError.__new__" "ValueError.__init__" He.veBase,
  fun K => He.Fa.ok K (.glo "BadLaurent"),
  xvB "BadLaurent",
  xcB "BadSeed" "place" "WholeError" true "ValueError" "ValueError.__new__" "ValueError.__init__" He.veBase,
  fun K => He.Fa.ok K (.glo "BadSeed"),
  xvB "BadSeed",
  xcB "BadRow" "place" "WholeError" true "ValueError" "ValueError.__new__" "ValueError.__init__" He.veBase,
  fun K => He.Fa.ok K (.glo "BadRow"),
  xvB "BadRow",
  xcB "BadType" "place" "WholeError" true "ValueError" "ValueError.__new__" "ValueError.__init__" He.veBase,
  fun K => He.Fa.ok K (.glo "BadType"),
  xvB "BadType",
  xcB "BadSurface" "place" "WholeError" true "ValueError" "ValueError.__new__" "ValueError.__init__" He.veBase,
  fun K => He.Fa.ok K (.glo "BadSurface"),
  xvB "BadSurface",
  xcB "BadFrieze" "place" "WholeError" true "ValueError" "ValueError.__new__" "ValueError.__init__" He.veBase,
  fun K => He.Fa.ok K (.glo "BadFrieze"),
  xvB "BadFrieze",
  xcB "BadPattern" "place" "WholeError" true "ValueError" "ValueError.__new__" "ValueError.__init__" He.veBase,
  fun K => He.Fa.ok K (.glo "BadPattern"),
  xvB "BadPattern",
  xcB "BadCartan" "place" "WholeError" true "ValueError" "ValueError.__new__" "ValueError.__init__" He.veBase,
  fun K => He.Fa.ok K (.glo "BadCartan"),
  xvB "BadCartan",
  xcB "BadRoot" "place" "WholeError" true "ValueError" "ValueError.__new__" "ValueError.__init__" He.veBase,
  fun K => He.Fa.ok K (.glo "BadRoot"),
  xvB "BadRoot",
  xcB "BadTriple" "place" "WholeError" true "ValueError" "ValueError.__new__" "ValueError.__init__" He.veBase,
  fun K => He.Fa.ok K (.glo "BadTriple"),
  xvB "BadTriple",
  xcB "BadMap" "place" "WholeError" true "ValueError" "ValueError.__new__" "ValueError.__init__" He.veBase,
  fun K => He.Fa.ok K (.glo "BadMap"),
  xvB "BadMap",
  xcB "BadText" "place" "WholeError" true "ValueError" "ValueError.__new__" "ValueError.__init__" He.veBase,
  fun K => He.Fa.ok K (.glo "BadText"),
  xvB "BadText",
  xcB "BadPaper" "place" "WholeError" true "ValueError" "ValueError.__new__" "ValueError.__init__" He.veBase,
  fun K => He.Fa.ok K (.glo "BadPaper"),
  xvB "BadPaper",
  xcB "BadDeed" "place" "WholeError" true "ValueError" "ValueError.__new__" "ValueError.__init__" He.veBase,
  fun K => He.Fa.ok K (.glo "BadDeed"),
  xvB "BadDeed",
  xcB "TooMany" "most" "OverflowError" false "OverflowError" "OverflowError.__new__" "OverflowError.__init__" oeBase,
  fun K => He.Fa.ok K (.glo "TooMany"),
  xvB "TooMany",
  xcB "NoSuch" "value" "LookupError" false "LookupError" "LookupError.__new__" "LookupError.__init__" leBase,
  fun K => He.Fa.ok K (.glo "NoSuch"),
  xvB "NoSuch",
  fun K => He.Fa.ok K (.glo "_law_valued"),
  gsB,
  isB vbs vts vtys,
  fun K => He.Fa.ok K (.free "isinstance"),
  fun K => He.Fa.ok K (.free "ValueError"),
  fun K => He.Fa.ok K (.glo "WholeError"),
  fun K => He.Fa.ok K (.free "OverflowError"),
  fun K => He.Fa.ok K (.free "LookupError"),
  fun K => He.Fa.ok K (.glo "_law_kinds"),
  noB "value" fcs_value,
  fun K => He.Fa.ok K (.glo "_law_placed"),
  noB "place" fcs_place,
  noB "most" fcs_most,
  fun K => He.Fa.ok K (.glo "_law_right"),
  fun K => He.Fa.ok K (.free "str"),
  fun K => He.Fa.ok K (.glo "law")]
def fn : List He.DefD := [d__law_draw, d__law_mixed, d__law_digit, d__law_valued, d__law_kinds, d__law_placed, d__law_right, d_law, d_BadNumber_init, d_BadPoint_init, d_BadWeb_init, d_BadLaurent_init, d_BadSeed_init, d_BadRow_init, d_BadType_init, d_BadSurface_init, d_BadFrieze_init, d_BadPattern_init, d_BadCartan_init, d_BadRoot_init, d_BadTriple_init, d_BadMap_init, d_BadText_init, d_BadPaper_init, d_BadDeed_init, d_TooMany_init, d_NoSuch_init]
def tf : List DefAt := []
structure Fct (K : PySem.W.Frag) (mg : Str → Option Value) (base : Heap) : Prop where
  tb : ∀ p ∈ tf, LamX.TabB base mg (He.cT K p).1 (He.cT K p).2
  nd : (tf.map fun p => (He.cT K p).2).Nodup
  f_sum : mg "sum" = none
  f_enumerate : mg "enumerate" = none
  m__law_draw : mg "_law_draw" = some (.ref (He.ga K "_law_draw"))
  f_range : mg "range" = none
  m__law_mixed : mg "_law_mixed" = some (.ref (He.ga K "_law_mixed"))
  m__law_digit : mg "_law_digit" = some (.ref (He.ga K "_law_digit"))
  x_BadNumber : MiX.XcTxt K mg "BadNumber" "value" "WholeError" (He.ga K "BadNumber") (He.ma K (He.ga K "BadNumber") "__init__") "ValueError.__new__" "ValueError.__init__" He.veBase
  m_BadNumber : mg "BadNumber" = some (.ref (He.ga K "BadNumber"))
  v_BadNumber : MiX.XcV K mg "BadNumber" "value" "WholeError" "no such number" true (He.ga K "BadNumber") (He.ma K (He.ga K "BadNumber") "__init__") "ValueError.__new__" "ValueError.__init__" He.veBase
  x_BadPoint : MiX.XcTxt K mg "BadPoint" "value" "WholeError" (He.ga K "BadPoint") (He.ma K (He.ga K "BadPoint") "__init__") "ValueError.__new__" "ValueError.__init__" He.veBase
  m_BadPoint : mg "BadPoint" = some (.ref (He.ga K "BadPoint"))
  v_BadPoint : MiX.XcV K mg "BadPoint" "value" "WholeError" "no such point" true (He.ga K "BadPoint") (He.ma K (He.ga K "BadPoint") "__init__") "ValueError.__new__" "ValueError.__init__" He.veBase
  x_BadWeb : MiX.XcTxt K mg "BadWeb" "place" "WholeError" (He.ga K "BadWeb") (He.ma K (He.ga K "BadWeb") "__init__") "ValueError.__new__" "ValueError.__init__" He.veBase
  m_BadWeb : mg "BadWeb" = some (.ref (He.ga K "BadWeb"))
  v_BadWeb : MiX.XcV K mg "BadWeb" "place" "WholeError" "no such web" true (He.ga K "BadWeb") (He.ma K (He.ga K "BadWeb") "__init__") "ValueError.__new__" "ValueError.__init__" He.veBase
  x_BadLaurent : MiX.XcTxt K mg "BadLaurent" "place" "WholeError" (He.ga K "BadLaurent") (He.ma K (He.ga K "BadLaurent") "__init__") "ValueError.__new__" "ValueError.__init__" He.veBase
  m_BadLaurent : mg "BadLaurent" = some (.ref (He.ga K "BadLaurent"))
  v_BadLaurent : MiX.XcV K mg "BadLaurent" "place" "WholeError" "no such polynomial" true (He.ga K "BadLaurent") (He.ma K (He.ga K "BadLaurent") "__init__") "ValueError.__new__" "ValueError.__init__" He.veBase
  x_BadSeed : MiX.XcTxt K mg "BadSeed" "place" "WholeError" (He.ga K "BadSeed") (He.ma K (He.ga K "BadSeed") "__init__") "ValueError.__new__" "ValueError.__init__" He.veBase
  m_BadSeed : mg "BadSeed" = some (.ref (He.ga K "BadSeed"))
  v_BadSeed : MiX.XcV K mg "BadSeed" "place" "WholeError" "no such seed" true (He.ga K "BadSeed") (He.ma K (He.ga K "BadSeed") "__init__") "ValueError.__new__" "ValueError.__init__" He.veBase
  x_BadRow : MiX.XcTxt K mg "BadRow" "place" "WholeError" (He.ga K "BadRow") (He.ma K (He.ga K "BadRow") "__init__") "ValueError.__new__" "ValueError.__init__" He.veBase
  m_BadRow : mg "BadRow" = some (.ref (He.ga K "BadRow"))
  v_BadRow : MiX.XcV K mg "BadRow" "place" "WholeError" "no such row" true (He.ga K "BadRow") (He.ma K (He.ga K "BadRow") "__init__") "ValueError.__new__" "ValueError.__init__" He.veBase
  x_BadType : MiX.XcTxt K mg "BadType" "place" "WholeError" (He.ga K "BadType") (He.ma K (He.ga K "BadType") "__init__") "ValueError.__new__" "ValueError.__init__" He.veBase
  m_BadType : mg "BadType" = some (.ref (He.ga K "BadType"))
  v_BadType : MiX.XcV K mg "BadType" "place" "WholeError" "no such kind" true (He.ga K "BadType") (He.ma K (He.ga K "BadType") "__init__") "ValueError.__new__" "ValueError.__init__" He.veBase
  x_BadSurface : MiX.XcTxt K mg "BadSurface" "place" "WholeError" (He.ga K "BadSurface") (He.ma K (He.ga K "BadSurface") "__init__") "ValueError.__new__" "ValueError.__init__" He.veBase
  m_BadSurface : mg "BadSurface" = some (.ref (He.ga K "BadSurface"))
  v_BadSurface : MiX.XcV K mg "BadSurface" "place" "WholeError" "no such surface" true (He.ga K "BadSurface") (He.ma K (He.ga K "BadSurface") "__init__") "ValueError.__new__" "ValueError.__init__" He.veBase
  x_BadFrieze : MiX.XcTxt K mg "BadFrieze" "place" "WholeError" (He.ga K "BadFrieze") (He.ma K (He.ga K "BadFrieze") "__init__") "ValueError.__new__" "ValueError.__init__" He.veBase
  m_BadFrieze : mg "BadFrieze" = some (.ref (He.ga K "BadFrieze"))
  v_BadFrieze : MiX.XcV K mg "BadFrieze" "place" "WholeError" "no such frieze" true (He.ga K "BadFrieze") (He.ma K (He.ga K "BadFrieze") "__init__") "ValueError.__new__" "ValueError.__init__" He.veBase
  x_BadPattern : MiX.XcTxt K mg "BadPattern" "place" "WholeError" (He.ga K "BadPattern") (He.ma K (He.ga K "BadPattern") "__init__") "ValueError.__new__" "ValueError.__init__" He.veBase
  m_BadPattern : mg "BadPattern" = some (.ref (He.ga K "BadPattern"))
  v_BadPattern : MiX.XcV K mg "BadPattern" "place" "WholeError" "no such pattern" true (He.ga K "BadPattern") (He.ma K (He.ga K "BadPattern") "__init__") "ValueError.__new__" "ValueError.__init__" He.veBase
  x_BadCartan : MiX.XcTxt K mg "BadCartan" "place" "WholeError" (He.ga K "BadCartan") (He.ma K (He.ga K "BadCartan") "__init__") "ValueError.__new__" "ValueError.__init__" He.veBase
  m_BadCartan : mg "BadCartan" = some (.ref (He.ga K "BadCartan"))
  v_BadCartan : MiX.XcV K mg "BadCartan" "place" "WholeError" "no such matrix" true (He.ga K "BadCartan") (He.ma K (He.ga K "BadCartan") "__init__") "ValueError.__new__" "ValueError.__init__" He.veBase
  x_BadRoot : MiX.XcTxt K mg "BadRoot" "place" "WholeError" (He.ga K "BadRoot") (He.ma K (He.ga K "BadRoot") "__init__") "ValueError.__new__" "ValueError.__init__" He.veBase
  m_BadRoot : mg "BadRoot" = some (.ref (He.ga K "BadRoot"))
  v_BadRoot : MiX.XcV K mg "BadRoot" "place" "WholeError" "no such root" true (He.ga K "BadRoot") (He.ma K (He.ga K "BadRoot") "__init__") "ValueError.__new__" "ValueError.__init__" He.veBase
  x_BadTriple : MiX.XcTxt K mg "BadTriple" "place" "WholeError" (He.ga K "BadTriple") (He.ma K (He.ga K "BadTriple") "__init__") "ValueError.__new__" "ValueError.__init__" He.veBase
  m_BadTriple : mg "BadTriple" = some (.ref (He.ga K "BadTriple"))
  v_BadTriple : MiX.XcV K mg "BadTriple" "place" "WholeError" "no such triple" true (He.ga K "BadTriple") (He.ma K (He.ga K "BadTriple") "__init__") "ValueError.__new__" "ValueError.__init__" He.veBase
  x_BadMap : MiX.XcTxt K mg "BadMap" "place" "WholeError" (He.ga K "BadMap") (He.ma K (He.ga K "BadMap") "__init__") "ValueError.__new__" "ValueError.__init__" He.veBase
  m_BadMap : mg "BadMap" = some (.ref (He.ga K "BadMap"))
  v_BadMap : MiX.XcV K mg "BadMap" "place" "WholeError" "no such permutation" true (He.ga K "BadMap") (He.ma K (He.ga K "BadMap") "__init__") "ValueError.__new__" "ValueError.__init__" He.veBase
  x_BadText : MiX.XcTxt K mg "BadText" "place" "WholeError" (He.ga K "BadText") (He.ma K (He.ga K "BadText") "__init__") "ValueError.__new__" "ValueError.__init__" He.veBase
  m_BadText : mg "BadText" = some (.ref (He.ga K "BadText"))
  v_BadText : MiX.XcV K mg "BadText" "place" "WholeError" "no such text" true (He.ga K "BadText") (He.ma K (He.ga K "BadText") "__init__") "ValueError.__new__" "ValueError.__init__" He.veBase
  x_BadPaper : MiX.XcTxt K mg "BadPaper" "place" "WholeError" (He.ga K "BadPaper") (He.ma K (He.ga K "BadPaper") "__init__") "ValueError.__new__" "ValueError.__init__" He.veBase
  m_BadPaper : mg "BadPaper" = some (.ref (He.ga K "BadPaper"))
  v_BadPaper : MiX.XcV K mg "BadPaper" "place" "WholeError" "no such paper" true (He.ga K "BadPaper") (He.ma K (He.ga K "BadPaper") "__init__") "ValueError.__new__" "ValueError.__init__" He.veBase
  x_BadDeed : MiX.XcTxt K mg "BadDeed" "place" "WholeError" (He.ga K "BadDeed") (He.ma K (He.ga K "BadDeed") "__init__") "ValueError.__new__" "ValueError.__init__" He.veBase
  m_BadDeed : mg "BadDeed" = some (.ref (He.ga K "BadDeed"))
  v_BadDeed : MiX.XcV K mg "BadDeed" "place" "WholeError" "no such deed" true (He.ga K "BadDeed") (He.ma K (He.ga K "BadDeed") "__init__") "ValueError.__new__" "ValueError.__init__" He.veBase
  x_TooMany : MiX.XcTxt K mg "TooMany" "most" "OverflowError" (He.ga K "TooMany") (He.ma K (He.ga K "TooMany") "__init__") "OverflowError.__new__" "OverflowError.__init__" oeBase
  m_TooMany : mg "TooMany" = some (.ref (He.ga K "TooMany"))
  v_TooMany : MiX.XcV K mg "TooMany" "most" "OverflowError" "too many" false (He.ga K "TooMany") (He.ma K (He.ga K "TooMany") "__init__") "OverflowError.__new__" "OverflowError.__init__" oeBase
  x_NoSuch : MiX.XcTxt K mg "NoSuch" "value" "LookupError" (He.ga K "NoSuch") (He.ma K (He.ga K "NoSuch") "__init__") "LookupError.__new__" "LookupError.__init__" leBase
  m_NoSuch : mg "NoSuch" = some (.ref (He.ga K "NoSuch"))
  v_NoSuch : MiX.XcV K mg "NoSuch" "value" "LookupError" "nothing so called" true (He.ga K "NoSuch") (He.ma K (He.ga K "NoSuch") "__init__") "LookupError.__new__" "LookupError.__init__" leBase
  m__law_valued : mg "_law_valued" = some (.ref (He.ga K "_law_valued"))
  gs_ : PySem.W.specialIn K (.builtin "object.__class__") "__get__" = some (some (.builtin "getset_descriptor.__get__")) ∧ PySem.W.takesIn K (.builtin "object.__class__") = some true
  is_ : ∀ c y b, isOf vbs vts vtys c y = some b → ∀ C u, mg c = some (.ref C) → clsV mg y = some u → PySem.W.kitOne K (.ref C) u = some b
  f_isinstance : mg "isinstance" = none
  f_ValueError : mg "ValueError" = none
  m_WholeError : mg "WholeError" = some (.ref (He.ga K "WholeError"))
  f_OverflowError : mg "OverflowError" = none
  f_LookupError : mg "LookupError" = none
  m__law_kinds : mg "_law_kinds" = some (.ref (He.ga K "_law_kinds"))
  no_value : ∀ c ∈ fcs_value, ∀ C, mg c = some (.ref C) → PySem.W.findIn K (.ref C) "value" = some none
  m__law_placed : mg "_law_placed" = some (.ref (He.ga K "_law_placed"))
  no_place : ∀ c ∈ fcs_place, ∀ C, mg c = some (.ref C) → PySem.W.findIn K (.ref C) "place" = some none
  no_most : ∀ c ∈ fcs_most, ∀ C, mg c = some (.ref C) → PySem.W.findIn K (.ref C) "most" = some none
  m__law_right : mg "_law_right" = some (.ref (He.ga K "_law_right"))
  f_str : mg "str" = none
  m_law : mg "law" = some (.ref (He.ga K "law"))
  F__law_draw : ∃ fd, FunD K d__law_draw.name d__law_draw.qual d__law_draw.params d__law_draw.body d__law_draw.scope (d__law_draw.dvs K) (d__law_draw.kws K) (He.fAd K d__law_draw.at_) fd
  F__law_mixed : ∃ fd, FunD K d__law_mixed.name d__law_mixed.qual d__law_mixed.params d__law_mixed.body d__law_mixed.scope (d__law_mixed.dvs K) (d__law_mixed.kws K) (He.fAd K d__law_mixed.at_) fd
  F__law_digit : ∃ fd, FunD K d__law_digit.name d__law_digit.qual d__law_digit.params d__law_digit.body d__law_digit.scope (d__law_digit.dvs K) (d__law_digit.kws K) (He.fAd K d__law_digit.at_) fd
  F__law_valued : ∃ fd, FunD K d__law_valued.name d__law_valued.qual d__law_valued.params d__law_valued.body d__law_valued.scope (d__law_valued.dvs K) (d__law_valued.kws K) (He.fAd K d__law_valued.at_) fd
  F__law_kinds : ∃ fd, FunD K d__law_kinds.name d__law_kinds.qual d__law_kinds.params d__law_kinds.body d__law_kinds.scope (d__law_kinds.dvs K) (d__law_kinds.kws K) (He.fAd K d__law_kinds.at_) fd
  F__law_placed : ∃ fd, FunD K d__law_placed.name d__law_placed.qual d__law_placed.params d__law_placed.body d__law_placed.scope (d__law_placed.dvs K) (d__law_placed.kws K) (He.fAd K d__law_placed.at_) fd
  F__law_right : ∃ fd, FunD K d__law_right.name d__law_right.qual d__law_right.params d__law_right.body d__law_right.scope (d__law_right.dvs K) (d__law_right.kws K) (He.fAd K d__law_right.at_) fd
  F_law : ∃ fd, FunD K d_law.name d_law.qual d_law.params d_law.body d_law.scope (d_law.dvs K) (d_law.kws K) (He.fAd K d_law.at_) fd
theorem xvs_all {K : PySem.W.Frag} {mg : Str → Option Value} {base : Heap} (c : Fct K mg base) : ∀ x ∈ vcs, ∃ f b m od C fI newId initId bmB, MiX.XcV K mg x f b m od C fI newId initId bmB := by
  intro x hx
  simp only [vcs, List.mem_cons, List.mem_nil_iff, or_false] at hx
  rcases hx with rfl | rfl | rfl | rfl | rfl | rfl | rfl | rfl | rfl | rfl | rfl | rfl | rfl | rfl | rfl | rfl | rfl | rfl | rfl
  · exact ⟨_, _, _, _, _, _, _, _, _, c.v_BadNumber⟩
  · exact ⟨_, _, _, _, _, _, _, _, _, c.v_BadPoint⟩
  · exact ⟨_, _, _, _, _, _, _, _, _, c.v_BadWeb⟩
  · exact ⟨_, _, _, _, _, _, _, _, _, c.v_BadLaurent⟩
  · exact ⟨_, _, _, _, _, _, _, _, _, c.v_BadSeed⟩
  · exact ⟨_, _, _, _, _, _, _, _, _, c.v_BadRow⟩
  · exact ⟨_, _, _, _, _, _, _, _, _, c.v_BadType⟩
  · exact ⟨_, _, _, _, _, _, _, _, _, c.v_BadSurface⟩
  · exact ⟨_, _, _, _, _, _, _, _, _, c.v_BadFrieze⟩
  · exact ⟨_, _, _, _, _, _, _, _, _, c.v_BadPattern⟩
  · exact ⟨_, _, _, _, _, _, _, _, _, c.v_BadCartan⟩
  · exact ⟨_, _, _, _, _, _, _, _, _, c.v_BadRoot⟩
  · exact ⟨_, _, _, _, _, _, _, _, _, c.v_BadTriple⟩
  · exact ⟨_, _, _, _, _, _, _, _, _, c.v_BadMap⟩
  · exact ⟨_, _, _, _, _, _, _, _, _, c.v_BadText⟩
  · exact ⟨_, _, _, _, _, _, _, _, _, c.v_BadPaper⟩
  · exact ⟨_, _, _, _, _, _, _, _, _, c.v_BadDeed⟩
  · exact ⟨_, _, _, _, _, _, _, _, _, c.v_TooMany⟩
  · exact ⟨_, _, _, _, _, _, _, _, _, c.v_NoSuch⟩
theorem xvs_value {K : PySem.W.Frag} {mg : Str → Option Value} {base : Heap} (c : Fct K mg base) : ∀ x ∈ fcs_value, ∃ f b m od C fI newId initId bmB, MiX.XcV K mg x f b m od C fI newId initId bmB := by
  intro x hx
  simp only [fcs_value, List.mem_cons, List.mem_nil_iff, or_false] at hx
  rcases hx with rfl | rfl | rfl
  · exact ⟨_, _, _, _, _, _, _, _, _, c.v_BadNumber⟩
  · exact ⟨_, _, _, _, _, _, _, _, _, c.v_BadPoint⟩
  · exact ⟨_, _, _, _, _, _, _, _, _, c.v_NoSuch⟩
theorem xvs_place {K : PySem.W.Frag} {mg : Str → Option Value} {base : Heap} (c : Fct K mg base) : ∀ x ∈ fcs_place, ∃ f b m od C fI newId initId bmB, MiX.XcV K mg x f b m od C fI newId initId bmB := by
  intro x hx
  simp only [fcs_place, List.mem_cons, List.mem_nil_iff, or_false] at hx
  rcases hx with rfl | rfl | rfl | rfl | rfl | rfl | rfl | rfl | rfl | rfl | rfl | rfl | rfl | rfl | rfl
  · exact ⟨_, _, _, _, _, _, _, _, _, c.v_BadWeb⟩
  · exact ⟨_, _, _, _, _, _, _, _, _, c.v_BadLaurent⟩
  · exact ⟨_, _, _, _, _, _, _, _, _, c.v_BadSeed⟩
  · exact ⟨_, _, _, _, _, _, _, _, _, c.v_BadRow⟩
  · exact ⟨_, _, _, _, _, _, _, _, _, c.v_BadType⟩
  · exact ⟨_, _, _, _, _, _, _, _, _, c.v_BadSurface⟩
  · exact ⟨_, _, _, _, _, _, _, _, _, c.v_BadFrieze⟩
  · exact ⟨_, _, _, _, _, _, _, _, _, c.v_BadPattern⟩
  · exact ⟨_, _, _, _, _, _, _, _, _, c.v_BadCartan⟩
  · exact ⟨_, _, _, _, _, _, _, _, _, c.v_BadRoot⟩
  · exact ⟨_, _, _, _, _, _, _, _, _, c.v_BadTriple⟩
  · exact ⟨_, _, _, _, _, _, _, _, _, c.v_BadMap⟩
  · exact ⟨_, _, _, _, _, _, _, _, _, c.v_BadText⟩
  · exact ⟨_, _, _, _, _, _, _, _, _, c.v_BadPaper⟩
  · exact ⟨_, _, _, _, _, _, _, _, _, c.v_BadDeed⟩
theorem xvs_most {K : PySem.W.Frag} {mg : Str → Option Value} {base : Heap} (c : Fct K mg base) : ∀ x ∈ fcs_most, ∃ f b m od C fI newId initId bmB, MiX.XcV K mg x f b m od C fI newId initId bmB := by
  intro x hx
  simp only [fcs_most, List.mem_cons, List.mem_nil_iff, or_false] at hx
  subst hx
  exact ⟨_, _, _, _, _, _, _, _, _, c.v_TooMany⟩
noncomputable def b__law_draw_0 : Fs := sRet (eDict [(eC (.str "left"), eIf (tOf (eOp gGe (eVar 0) (eOp gPow (eC (.int 10)) (eC (.int 18))))) (eVar 0) (eC (.int 0))), (eC (.str "cell"), eVar 0), (eC (.str "turns"), eOp gMul (eC (.int 1000)) (eVar 1))])
noncomputable def b__law_draw : Fs := b__law_draw_0
noncomputable def s__law_draw : List D → Hd → Res D := runF 2 b__law_draw
theorem ok__law_draw {P : Program} {w : World} {K : PySem.W.Frag} {mg : Str → Option Value} {base : Heap} (c : Fct K mg base) : FDx P w K mg (tabsOf K tf) base d__law_draw p__law_draw 1 s__law_draw := by
  refine fd_ok (k := 0) (N := N__law_draw) (fb := b__law_draw) c.F__law_draw sc__law_draw fun cdv A outer s H E hr => ?_
  exact dss_one (f := b__law_draw_0) (ds_ret (de_dict (dps_cons (de_str) (de_if (dt_cmp (od_ge) (de_var 0) (de_op (od_pow) (de_int) (de_int)) (by first | rfl | exact nomark _)) (de_var 0) (de_int)) (dps_cons (de_str) (de_var 0) (dps_cons (de_str) (de_op (od_mul rfl) (de_int) (de_var 1)) (dps_nil))))))
theorem bp__law_draw {K : PySem.W.Frag} (fd : FuncData) (F : FunD K d__law_draw.name d__law_draw.qual d__law_draw.params d__law_draw.body d__law_draw.scope (d__law_draw.dvs K) (d__law_draw.kws K) (He.fAd K d__law_draw.at_) fd) : Bnd K fd p__law_draw 2 [] (fun ds _ => ds) :=
  bnd_pos F rfl (fun _ _ _ _ _ _ us hl => match us, hl with | [_, _], _ => rfl) 2 rfl
noncomputable def b__law_mixed_0 : Fs := sAsg (eOp gAdd (eOp gAdd (eOp gMod (eVar 0) (eOp gIx (eLst (aCons (eC (.int 1000000007)) (aCons (eC (.int 998244353)) (aCons (eC (.int 2147483629)) (aCons (eC (.int 1000000009)) aNil))))) (eOp gMod (eVar 1) (eC (.int 4))))) (eOp gMul (eC (.int 7919)) (eVar 1))) (eC (.int 13))) (gSet 2)
noncomputable def b__law_mixed_1 : Fs := sRet (eOp gMod (eOp gMul (eOp gMod (eOp gMul (eVar 2) (eVar 2)) (eC (.int 2147483647))) (eC (.int 48271))) (eC (.int 2147483647)))
noncomputable def b__law_mixed : Fs := sSeq b__law_mixed_0 (b__law_mixed_1)
noncomputable def s__law_mixed : List D → Hd → Res D := runF 3 b__law_mixed
theorem ok__law_mixed {P : Program} {w : World} {K : PySem.W.Frag} {mg : Str → Option Value} {base : Heap} (c : Fct K mg base) : FDx P w K mg (tabsOf K tf) base d__law_mixed p__law_mixed 1 s__law_mixed := by
  refine fd_ok (k := 0) (N := N__law_mixed) (fb := b__law_mixed) c.F__law_mixed sc__law_mixed fun cdv A outer s H E hr => ?_
  refine dss_cons (f := b__law_mixed_0) (ds_set 2 sc__law_mixed.nd (de_op (od_add rfl) (de_op (od_add rfl) (de_op (od_mod) (de_var 0) (de_ix (ixd rfl hr.u1) (de_lst (da_cons (de_int) (da_cons (de_int) (da_cons (de_int) (da_cons (de_int) (da_nil)))))) (de_op (od_mod) (de_var 1) (de_int)))) (de_op (od_mul rfl) (de_int) (de_var 1))) (de_int)) rfl (Or.inl rfl)) ?_
  exact dss_one (f := b__law_mixed_1) (ds_ret (de_op (od_mod) (de_op (od_mul rfl) (de_op (od_mod) (de_op (od_mul rfl) (de_var 2) (de_var 2)) (de_int)) (de_int)) (de_int)))
theorem bp__law_mixed {K : PySem.W.Frag} (fd : FuncData) (F : FunD K d__law_mixed.name d__law_mixed.qual d__law_mixed.params d__law_mixed.body d__law_mixed.scope (d__law_mixed.dvs K) (d__law_mixed.kws K) (He.fAd K d__law_mixed.at_) fd) : Bnd K fd p__law_mixed 2 [] (fun ds _ => ds) :=
  bnd_pos F rfl (fun _ _ _ _ _ _ us hl => match us, hl with | [_, _], _ => rfl) 2 rfl
noncomputable def b__law_digit_0 : Fs := sIf (tOf (eOp gEq (eOp gIx (eVar 0) (eC (.str "left"))) (eC (.int 0)))) (sFor (iRng1D (aCons (eC (.int 4)) aNil)) (gSet 2) (sSeq (sStore (eOp gAdd (eOp gIx (eVar 0) (eC (.str "turns"))) (eC (.int 1))) (eVar 0) (eC (.str "turns")))
    (sStore (eOp gAdd (eOp gMul (eOp gIx (eVar 0) (eC (.str "left"))) (eC (.int 2147483647))) (eCall s__law_mixed (aCons (eOp gIx (eVar 0) (eC (.str "cell"))) (aCons (eOp gIx (eVar 0) (eC (.str "turns"))) aNil)))) (eVar 0) (eC (.str "left"))))) sNil
noncomputable def b__law_digit_1 : Fs := sAsg (eOp gMod (eOp gIx (eVar 0) (eC (.str "left"))) (eVar 1)) (gSet 3)
noncomputable def b__law_digit_2 : Fs := sStore (eOp gFdv (eOp gIx (eVar 0) (eC (.str "left"))) (eVar 1)) (eVar 0) (eC (.str "left"))
noncomputable def b__law_digit_3 : Fs := sRet (eVar 3)
noncomputable def b__law_digit : Fs := sSeq b__law_digit_0 (sSeq b__law_digit_1 (sSeq b__law_digit_2 (b__law_digit_3)))
noncomputable def s__law_digit : List D → Hd → Res D := runF 4 b__law_digit
theorem ok__law_digit {P : Program} {w : World} {K : PySem.W.Frag} {mg : Str → Option Value} {base : Heap} (c : Fct K mg base) : FDx P w K mg (tabsOf K tf) base d__law_digit p__law_digit 2 s__law_digit := by
  refine fd_ok (k := 1) (N := N__law_digit) (fb := b__law_digit) c.F__law_digit sc__law_digit fun cdv A outer s H E hr => ?_
  refine dss_cons (f := b__law_digit_0) (ds_if (dt_cmp (od_eq rfl hr.u64) (de_ix (ixd rfl hr.u1) (de_var 0) (de_str)) (de_int) (by first | rfl | exact nomark _)) (dss_one (ds_for (passes_of rfl) rfl (di_rng1 rfl c.f_range (da_cons (de_int) (da_nil))) (dg_name 2 sc__law_digit.nd) (dss_cons (ds_store hr.u1 (de_op (od_add rfl) (de_ix (ixd rfl hr.u1) (de_var 0) (de_str)) (de_int)) (de_var 0) (de_str))
    (dss_one (ds_store hr.u1 (de_op (od_add rfl) (de_op (od_mul rfl) (de_ix (ixd rfl hr.u1) (de_var 0) (de_str)) (de_int)) (de_call (gD := fun ds _ => ds) (ok__law_mixed c) (hr.mono (by decide)) rfl c.m__law_mixed (takes_of rfl rfl rfl rfl) bp__law_mixed (da_cons (de_ix (ixd rfl hr.u1) (de_var 0) (de_str)) (da_cons (de_ix (ixd rfl hr.u1) (de_var 0) (de_str)) (da_nil))) (al_cons (al_cons (al_nil))))) (de_var 0) (de_str)))))) (dss_nil)) ?_
  refine dss_cons (f := b__law_digit_1) (ds_set 3 sc__law_digit.nd (de_op (od_mod) (de_ix (ixd rfl hr.u1) (de_var 0) (de_str)) (de_var 1)) rfl (Or.inl rfl)) ?_
  refine dss_cons (f := b__law_digit_2) (ds_store hr.u1 (de_op (od_fdv) (de_ix (ixd rfl hr.u1) (de_var 0) (de_str)) (de_var 1)) (de_var 0) (de_str)) ?_
  exact dss_one (f := b__law_digit_3) (ds_ret (de_var 3))
theorem bp__law_digit {K : PySem.W.Frag} (fd : FuncData) (F : FunD K d__law_digit.name d__law_digit.qual d__law_digit.params d__law_digit.body d__law_digit.scope (d__law_digit.dvs K) (d__law_digit.kws K) (He.fAd K d__law_digit.at_) fd) : Bnd K fd p__law_digit 2 [] (fun ds _ => ds) :=
  bnd_pos F rfl (fun _ _ _ _ _ _ us hl => match us, hl with | [_, _], _ => rfl) 2 rfl
noncomputable def b__law_valued_0 : Fs := sAsg (eLst (aCons (eTup (aCons (eMk "BadNumber" "value" "no such number" (eVar 0)) (aCons (eMk "BadNumber" "value" "no such number" (eVar 0)) (aCons (eC (.str "BadNumber")) aNil)))) aNil)) (gSet 1)
noncomputable def b__law_valued_1 : Fs := sRet (eOp gAdd (eVar 1) (eLst (aCons (eTup (aCons (eMk "BadPoint" "value" "no such point" (eVar 0)) (aCons (eMk "BadPoint" "value" "no such point" (eVar 0)) (aCons (eC (.str "BadPoint")) aNil)))) aNil)))
noncomputable def b__law_valued : Fs := sSeq b__law_valued_0 (b__law_valued_1)
noncomputable def s__law_valued : List D → Hd → Res D := runF 2 b__law_valued
theorem ok__law_valued {P : Program} {w : World} {K : PySem.W.Frag} {mg : Str → Option Value} {base : Heap} (c : Fct K mg base) : FDx P w K mg (tabsOf K tf) base d__law_valued p__law_valued 1 s__law_valued := by
  refine fd_ok (k := 0) (N := N__law_valued) (fb := b__law_valued) c.F__law_valued sc__law_valued fun cdv A outer s H E hr => ?_
  refine dss_cons (f := b__law_valued_0) (ds_set 1 sc__law_valued.nd (de_lst (da_cons (de_tup (da_cons (de_mkP XBV c.v_BadNumber hr rfl (de_var 0) rfl) (da_cons (de_mkK XBV c.v_BadNumber hr rfl (de_var 0) rfl) (da_cons (de_str) (da_nil))))) (da_nil))) rfl (Or.inl rfl)) ?_
  exact dss_one (f := b__law_valued_1) (ds_ret (de_op (od_add rfl) (de_var 1) (de_lst (da_cons (de_tup (da_cons (de_mkP XBV c.v_BadPoint hr rfl (de_var 0) rfl) (da_cons (de_mkK XBV c.v_BadPoint hr rfl (de_var 0) rfl) (da_cons (de_str) (da_nil))))) (da_nil)))))
theorem bp__law_valued {K : PySem.W.Frag} (fd : FuncData) (F : FunD K d__law_valued.name d__law_valued.qual d__law_valued.params d__law_valued.body d__law_valued.scope (d__law_valued.dvs K) (d__law_valued.kws K) (He.fAd K d__law_valued.at_) fd) : Bnd K fd p__law_valued 1 [] (fun ds _ => ds) :=
  bnd_pos F rfl (fun _ _ _ _ _ _ us hl => match us, hl with | [_], _ => rfl) 1 rfl
noncomputable def b__law_kinds_0 : Fs := sAsg (eLst (aCons (eTup (aCons (eC (.str "BadCartan")) (aCons (eCall (gIsX vcs (isOf vbs vts vtys)) (aCons (eVar 0) (aCons (eC (.gl "BadCartan")) aNil))) aNil))) (aCons (eTup (aCons (eC (.str "BadDeed")) (aCons (eCall (gIsX vcs (isOf vbs vts vtys)) (aCons (eVar 0) (aCons (eC (.gl "BadDeed")) aNil))) aNil))) aNil))) (gSet 1)
noncomputable def b__law_kinds_1 : Fs := sAsg (eOp gAdd (eVar 1) (eLst (aCons (eTup (aCons (eC (.str "BadFrieze")) (aCons (eCall (gIsX vcs (isOf vbs vts vtys)) (aCons (eVar 0) (aCons (eC (.gl "BadFrieze")) aNil))) aNil))) (aCons (eTup (aCons (eC (.str "BadLaurent")) (aCons (eCall (gIsX vcs (isOf vbs vts vtys)) (aCons (eVar 0) (aCons (eC (.gl "BadLaurent")) aNil))) aNil))) aNil)))) (gSet 1)
noncomputable def b__law_kinds_2 : Fs := sAsg (eOp gAdd (eVar 1) (eLst (aCons (eTup (aCons (eC (.str "BadMap")) (aCons (eCall (gIsX vcs (isOf vbs vts vtys)) (aCons (eVar 0) (aCons (eC (.gl "BadMap")) aNil))) aNil))) (aCons (eTup (aCons (eC (.str "BadNumber")) (aCons (eCall (gIsX vcs (isOf vbs vts vtys)) (aCons (eVar 0) (aCons (eC (.gl "BadNumber")) aNil))) aNil))) aNil)))) (gSet 1)
noncomputable def b__law_kinds_3 : Fs := sAsg (eOp gAdd (eVar 1) (eLst (aCons (eTup (aCons (eC (.str "BadPaper")) (aCons (eCall (gIsX vcs (isOf vbs vts vtys)) (aCons (eVar 0) (aCons (eC (.gl "BadPaper")) aNil))) aNil))) (aCons (eTup (aCons (eC (.str "BadPattern")) (aCons (eCall (gIsX vcs (isOf vbs vts vtys)) (aCons (eVar 0) (aCons (eC (.gl "BadPattern")) aNil))) aNil))) aNil)))) (gSet 1)
noncomputable def b__law_kinds_4 : Fs := sAsg (eOp gAdd (eVar 1) (eLst (aCons (eTup (aCons (eC (.str "BadPoint")) (aCons (eCall (gIsX vcs (isOf vbs vts vtys)) (aCons (eVar 0) (aCons (eC (.gl "BadPoint")) aNil))) aNil))) (aCons (eTup (aCons (eC (.str "BadRoot")) (aCons (eCall (gIsX vcs (isOf vbs vts vtys)) (aCons (eVar 0) (aCons (eC (.gl "BadRoot")) aNil))) aNil))) aNil)))) (gSet 1)
noncomputable def b__law_kinds_5 : Fs := sAsg (eOp gAdd (eVar 1) (eLst (aCons (eTup (aCons (eC (.str "BadRow")) (aCons (eCall (gIsX vcs (isOf vbs vts vtys)) (aCons (eVar 0) (aCons (eC (.gl "BadRow")) aNil))) aNil))) (aCons (eTup (aCons (eC (.str "BadSeed")) (aCons (eCall (gIsX vcs (isOf vbs vts vtys)) (aCons (eVar 0) (aCons (eC (.gl "BadSeed")) aNil))) aNil))) aNil)))) (gSet 1)
noncomputable def b__law_kinds_6 : Fs := sAsg (eOp gAdd (eVar 1) (eLst (aCons (eTup (aCons (eC (.str "BadSurface")) (aCons (eCall (gIsX vcs (isOf vbs vts vtys)) (aCons (eVar 0) (aCons (eC (.gl "BadSurface")) aNil))) aNil))) (aCons (eTup (aCons (eC (.str "BadText")) (aCons (eCall (gIsX vcs (isOf vbs vts vtys)) (aCons (eVar 0) (aCons (eC (.gl "BadText")) aNil))) aNil))) aNil)))) (gSet 1)
noncomputable def b__law_kinds_7 : Fs := sAsg (eOp gAdd (eVar 1) (eLst (aCons (eTup (aCons (eC (.str "BadTriple")) (aCons (eCall (gIsX vcs (isOf vbs vts vtys)) (aCons (eVar 0) (aCons (eC (.gl "BadTriple")) aNil))) aNil))) (aCons (eTup (aCons (eC (.str "BadType")) (aCons (eCall (gIsX vcs (isOf vbs vts vtys)) (aCons (eVar 0) (aCons (eC (.gl "BadType")) aNil))) aNil))) aNil)))) (gSet 1)
noncomputable def b__law_kinds_8 : Fs := sAsg (eOp gAdd (eVar 1) (eLst (aCons (eTup (aCons (eC (.str "BadWeb")) (aCons (eCall (gIsX vcs (isOf vbs vts vtys)) (aCons (eVar 0) (aCons (eC (.gl "BadWeb")) aNil))) aNil))) (aCons (eTup (aCons (eC (.str "NoSuch")) (aCons (eCall (gIsX vcs (isOf vbs vts vtys)) (aCons (eVar 0) (aCons (eC (.gl "NoSuch")) aNil))) aNil))) aNil)))) (gSet 1)
noncomputable def b__law_kinds_9 : Fs := sAsg (eOp gAdd (eVar 1) (eLst (aCons (eTup (aCons (eC (.str "TooMany")) (aCons (eCall (gIsX vcs (isOf vbs vts vtys)) (aCons (eVar 0) (aCons (eC (.gl "TooMany")) aNil))) aNil))) aNil))) (gSet 1)
noncomputable def b__law_kinds_10 : Fs := sAsg (eOp gAdd (eVar 1) (eLst (aCons (eTup (aCons (eC (.str "base")) (aCons (eCall (gIsX vcs (isOf vbs vts vtys)) (aCons (eVar 0) (aCons (eC (.gl "WholeError")) aNil))) aNil))) (aCons (eTup (aCons (eC (.str "value")) (aCons (eCall (gIsX vcs (isOf vbs vts vtys)) (aCons (eVar 0) (aCons (eC (.ty "ValueError")) aNil))) aNil))) aNil)))) (gSet 1)
noncomputable def b__law_kinds_11 : Fs := sAsg (eOp gAdd (eVar 1) (eLst (aCons (eTup (aCons (eC (.str "lookup")) (aCons (eCall (gIsX vcs (isOf vbs vts vtys)) (aCons (eVar 0) (aCons (eC (.ty "LookupError")) aNil))) aNil))) (aCons (eTup (aCons (eC (.str "overflow")) (aCons (eCall (gIsX vcs (isOf vbs vts vtys)) (aCons (eVar 0) (aCons (eC (.ty "OverflowError")) aNil))) aNil))) aNil)))) (gSet 1)
noncomputable def b__law_kinds_12 : Fs := sRet (eLc (iOf (eVar 1)) (gUnp 2 (gsCons (gSet 2) (gsCons (gSet 3) gsNil))) (tOf (eVar 3)) (eVar 2) [2, 3])
noncomputable def b__law_kinds : Fs := sSeq b__law_kinds_0 (sSeq b__law_kinds_1 (sSeq b__law_kinds_2 (sSeq b__law_kinds_3 (sSeq b__law_kinds_4 (sSeq b__law_kinds_5 (sSeq b__law_kinds_6 (sSeq b__law_kinds_7 (sSeq b__law_kinds_8 (sSeq b__law_kinds_9 (sSeq b__law_kinds_10 (sSeq b__law_kinds_11 (b__law_kinds_12))))))))))))
noncomputable def s__law_kinds : List D → Hd → Res D := runF 4 b__law_kinds
theorem ok__law_kinds {P : Program} {w : World} {K : PySem.W.Frag} {mg : Str → Option Value} {base : Heap} (c : Fct K mg base) : FDx P w K mg (tabsOf K tf) base d__law_kinds p__law_kinds 1 s__law_kinds := by
  refine fd_ok (k := 0) (N := N__law_kinds) (fb := b__law_kinds) c.F__law_kinds sc__law_kinds fun cdv A outer s H E hr => ?_
  refine dss_cons (f := b__law_kinds_0) (ds_set 1 sc__law_kinds.nd (de_lst (da_cons (de_tup (da_cons (de_str) (da_cons (de_callB (cd_isx rfl (xvs_all c) c.gs_.1 c.gs_.2 isOf_y (fun x y b _ => c.is_ x y b)) rfl c.f_isinstance PyProof.Rows.Boot.«isinstance» (da_cons (de_var 0) (da_cons (de_gl rfl rfl ⟨_, c.m_BadCartan⟩) (da_nil)))) (da_nil)))) (da_cons (de_tup (da_cons (de_str) (da_cons (de_callB (cd_isx rfl (xvs_all c) c.gs_.1 c.gs_.2 isOf_y (fun x y b _ => c.is_ x y b)) rfl c.f_isinstance PyProof.Rows.Boot.«isinstance» (da_cons (de_var 0) (da_cons (de_gl rfl rfl ⟨_, c.m_BadDeed⟩) (da_nil)))) (da_nil)))) (da_nil)))) rfl (Or.inl rfl)) ?_
  refine dss_cons (f := b__law_kinds_1) (ds_set 1 sc__law_kinds.nd (de_op (od_add rfl) (de_var 1) (de_lst (da_cons (de_tup (da_cons (de_str) (da_cons (de_callB (cd_isx rfl (xvs_all c) c.gs_.1 c.gs_.2 isOf_y (fun x y b _ => c.is_ x y b)) rfl c.f_isinstance PyProof.Rows.Boot.«isinstance» (da_cons (de_var 0) (da_cons (de_gl rfl rfl ⟨_, c.m_BadFrieze⟩) (da_nil)))) (da_nil)))) (da_cons (de_tup (da_cons (de_str) (da_cons (de_callB (cd_isx rfl (xvs_all c) c.gs_.1 c.gs_.2 isOf_y (fun x y b _ => c.is_ x y b)) rfl c.f_isinstance PyProof.Rows.Boot.«isinstance» (da_cons (de_var 0) (da_cons (de_gl rfl rfl ⟨_, c.m_BadLaurent⟩) (da_nil)))) (da_nil)))) (da_nil))))) rfl (Or.inl rfl)) ?_
  refine dss_cons (f := b__law_kinds_2) (ds_set 1 sc__law_kinds.nd (de_op (od_add rfl) (de_var 1) (de_lst (da_cons (de_tup (da_cons (de_str) (da_cons (de_callB (cd_isx rfl (xvs_all c) c.gs_.1 c.gs_.2 isOf_y (fun x y b _ => c.is_ x y b)) rfl c.f_isinstance PyProof.Rows.Boot.«isinstance» (da_cons (de_var 0) (da_cons (de_gl rfl rfl ⟨_, c.m_BadMap⟩) (da_nil)))) (da_nil)))) (da_cons (de_tup (da_cons (de_str) (da_cons (de_callB (cd_isx rfl (xvs_all c) c.gs_.1 c.gs_.2 isOf_y (fun x y b _ => c.is_ x y b)) rfl c.f_isinstance PyProof.Rows.Boot.«isinstance» (da_cons (de_var 0) (da_cons (de_gl rfl rfl ⟨_, c.m_BadNumber⟩) (da_nil)))) (da_nil)))) (da_nil))))) rfl (Or.inl rfl)) ?_
  refine dss_cons (f := b__law_kinds_3) (ds_set 1 sc__law_kinds.nd (de_op (od_add rfl) (de_var 1) (de_lst (da_cons (de_tup (da_cons (de_str) (da_cons (de_callB (cd_isx rfl (xvs_all c) c.gs_.1 c.gs_.2 isOf_y (fun x y b _ => c.is_ x y b)) rfl c.f_isinstance PyProof.Rows.Boot.«isinstance» (da_cons (de_var 0) (da_cons (de_gl rfl rfl ⟨_, c.m_BadPaper⟩) (da_nil)))) (da_nil)))) (da_cons (de_tup (da_cons (de_str) (da_cons (de_callB (cd_isx rfl (xvs_all c) c.gs_.1 c.gs_.2 isOf_y (fun x y b _ => c.is_ x y b)) rfl c.f_isinstance PyProof.Rows.Boot.«isinstance» (da_cons (de_var 0) (da_cons (de_gl rfl rfl ⟨_, c.m_BadPattern⟩) (da_nil)))) (da_nil)))) (da_nil))))) rfl (Or.inl rfl)) ?_
  refine dss_cons (f := b__law_kinds_4) (ds_set 1 sc__law_kinds.nd (de_op (od_add rfl) (de_var 1) (de_lst (da_cons (de_tup (da_cons (de_str) (da_cons (de_callB (cd_isx rfl (xvs_all c) c.gs_.1 c.gs_.2 isOf_y (fun x y b _ => c.is_ x y b)) rfl c.f_isinstance PyProof.Rows.Boot.«isinstance» (da_cons (de_var 0) (da_cons (de_gl rfl rfl ⟨_, c.m_BadPoint⟩) (da_nil)))) (da_nil)))) (da_cons (de_tup (da_cons (de_str) (da_cons (de_callB (cd_isx rfl (xvs_all c) c.gs_.1 c.gs_.2 isOf_y (fun x y b _ => c.is_ x y b)) rfl c.f_isinstance PyProof.Rows.Boot.«isinstance» (da_cons (de_var 0) (da_cons (de_gl rfl rfl ⟨_, c.m_BadRoot⟩) (da_nil)))) (da_nil)))) (da_nil))))) rfl (Or.inl rfl)) ?_
  refine dss_cons (f := b__law_kinds_5) (ds_set 1 sc__law_kinds.nd (de_op (od_add rfl) (de_var 1) (de_lst (da_cons (de_tup (da_cons (de_str) (da_cons (de_callB (cd_isx rfl (xvs_all c) c.gs_.1 c.gs_.2 isOf_y (fun x y b _ => c.is_ x y b)) rfl c.f_isinstance PyProof.Rows.Boot.«isinstance» (da_cons (de_var 0) (da_cons (de_gl rfl rfl ⟨_, c.m_BadRow⟩) (da_nil)))) (da_nil)))) (da_cons (de_tup (da_cons (de_str) (da_cons (de_callB (cd_isx rfl (xvs_all c) c.gs_.1 c.gs_.2 isOf_y (fun x y b _ => c.is_ x y b)) rfl c.f_isinstance PyProof.Rows.Boot.«isinstance» (da_cons (de_var 0) (da_cons (de_gl rfl rfl ⟨_, c.m_BadSeed⟩) (da_nil)))) (da_nil)))) (da_nil))))) rfl (Or.inl rfl)) ?_
  refine dss_cons (f := b__law_kinds_6) (ds_set 1 sc__law_kinds.nd (de_op (od_add rfl) (de_var 1) (de_lst (da_cons (de_tup (da_cons (de_str) (da_cons (de_callB (cd_isx rfl (xvs_all c) c.gs_.1 c.gs_.2 isOf_y (fun x y b _ => c.is_ x y b)) rfl c.f_isinstance PyProof.Rows.Boot.«isinstance» (da_cons (de_var 0) (da_cons (de_gl rfl rfl ⟨_, c.m_BadSurface⟩) (da_nil)))) (da_nil)))) (da_cons (de_tup (da_cons (de_str) (da_cons (de_callB (cd_isx rfl (xvs_all c) c.gs_.1 c.gs_.2 isOf_y (fun x y b _ => c.is_ x y b)) rfl c.f_isinstance PyProof.Rows.Boot.«isinstance» (da_cons (de_var 0) (da_cons (de_gl rfl rfl ⟨_, c.m_BadText⟩) (da_nil)))) (da_nil)))) (da_nil))))) rfl (Or.inl rfl)) ?_
  refine dss_cons (f := b__law_kinds_7) (ds_set 1 sc__law_kinds.nd (de_op (od_add rfl) (de_var 1) (de_lst (da_cons (de_tup (da_cons (de_str) (da_cons (de_callB (cd_isx rfl (xvs_all c) c.gs_.1 c.gs_.2 isOf_y (fun x y b _ => c.is_ x y b)) rfl c.f_isinstance PyProof.Rows.Boot.«isinstance» (da_cons (de_var 0) (da_cons (de_gl rfl rfl ⟨_, c.m_BadTriple⟩) (da_nil)))) (da_nil)))) (da_cons (de_tup (da_cons (de_str) (da_cons (de_callB (cd_isx rfl (xvs_all c) c.gs_.1 c.gs_.2 isOf_y (fun x y b _ => c.is_ x y b)) rfl c.f_isinstance PyProof.Rows.Boot.«isinstance» (da_cons (de_var 0) (da_cons (de_gl rfl rfl ⟨_, c.m_BadType⟩) (da_nil)))) (da_nil)))) (da_nil))))) rfl (Or.inl rfl)) ?_
  refine dss_cons (f := b__law_kinds_8) (ds_set 1 sc__law_kinds.nd (de_op (od_add rfl) (de_var 1) (de_lst (da_cons (de_tup (da_cons (de_str) (da_cons (de_callB (cd_isx rfl (xvs_all c) c.gs_.1 c.gs_.2 isOf_y (fun x y b _ => c.is_ x y b)) rfl c.f_isinstance PyProof.Rows.Boot.«isinstance» (da_cons (de_var 0) (da_cons (de_gl rfl rfl ⟨_, c.m_BadWeb⟩) (da_nil)))) (da_nil)))) (da_cons (de_tup (da_cons (de_str) (da_cons (de_callB (cd_isx rfl (xvs_all c) c.gs_.1 c.gs_.2 isOf_y (fun x y b _ => c.is_ x y b)) rfl c.f_isinstance PyProof.Rows.Boot.«isinstance» (da_cons (de_var 0) (da_cons (de_gl rfl rfl ⟨_, c.m_NoSuch⟩) (da_nil)))) (da_nil)))) (da_nil))))) rfl (Or.inl rfl)) ?_
  refine dss_cons (f := b__law_kinds_9) (ds_set 1 sc__law_kinds.nd (de_op (od_add rfl) (de_var 1) (de_lst (da_cons (de_tup (da_cons (de_str) (da_cons (de_callB (cd_isx rfl (xvs_all c) c.gs_.1 c.gs_.2 isOf_y (fun x y b _ => c.is_ x y b)) rfl c.f_isinstance PyProof.Rows.Boot.«isinstance» (da_cons (de_var 0) (da_cons (de_gl rfl rfl ⟨_, c.m_TooMany⟩) (da_nil)))) (da_nil)))) (da_nil)))) rfl (Or.inl rfl)) ?_
  refine dss_cons (f := b__law_kinds_10) (ds_set 1 sc__law_kinds.nd (de_op (od_add rfl) (de_var 1) (de_lst (da_cons (de_tup (da_cons (de_str) (da_cons (de_callB (cd_isx rfl (xvs_all c) c.gs_.1 c.gs_.2 isOf_y (fun x y b _ => c.is_ x y b)) rfl c.f_isinstance PyProof.Rows.Boot.«isinstance» (da_cons (de_var 0) (da_cons (de_gl rfl rfl ⟨_, c.m_WholeError⟩) (da_nil)))) (da_nil)))) (da_cons (de_tup (da_cons (de_str) (da_cons (de_callB (cd_isx rfl (xvs_all c) c.gs_.1 c.gs_.2 isOf_y (fun x y b _ => c.is_ x y b)) rfl c.f_isinstance PyProof.Rows.Boot.«isinstance» (da_cons (de_var 0) (da_cons (de_type rfl c.f_ValueError PyProof.Rows.Boot.«ValueError») (da_nil)))) (da_nil)))) (da_nil))))) rfl (Or.inl rfl)) ?_
  refine dss_cons (f := b__law_kinds_11) (ds_set 1 sc__law_kinds.nd (de_op (od_add rfl) (de_var 1) (de_lst (da_cons (de_tup (da_cons (de_str) (da_cons (de_callB (cd_isx rfl (xvs_all c) c.gs_.1 c.gs_.2 isOf_y (fun x y b _ => c.is_ x y b)) rfl c.f_isinstance PyProof.Rows.Boot.«isinstance» (da_cons (de_var 0) (da_cons (de_type rfl c.f_LookupError PyProof.Rows.Boot.«LookupError») (da_nil)))) (da_nil)))) (da_cons (de_tup (da_cons (de_str) (da_cons (de_callB (cd_isx rfl (xvs_all c) c.gs_.1 c.gs_.2 isOf_y (fun x y b _ => c.is_ x y b)) rfl c.f_isinstance PyProof.Rows.Boot.«isinstance» (da_cons (de_var 0) (da_cons (de_type rfl c.f_OverflowError PyProof.Rows.Boot.«OverflowError») (da_nil)))) (da_nil)))) (da_nil))))) rfl (Or.inl rfl)) ?_
  exact dss_one (f := b__law_kinds_12) (ds_ret (de_lc (own := [("word", 2), ("is_so", 3)]) (ts := [2, 3]) rfl sc__law_kinds.nd (di_of rfl (de_var 1)) (blkOk_by (N := N__law_kinds) (sc := defScope st__law_kinds) (by decide +kernel)) (by decide) (fun _ _ _ _ _ => dg_unp rfl rfl (dgs_cons (dg_name 2 sc__law_kinds.nd) (dgs_cons (dg_name 3 sc__law_kinds.nd) (dgs_nil)))) (fun _ _ _ _ _ => dts_one (dt_val (de_var 3))) (fun _ _ _ _ _ => de_var 2)))
theorem bp__law_kinds {K : PySem.W.Frag} (fd : FuncData) (F : FunD K d__law_kinds.name d__law_kinds.qual d__law_kinds.params d__law_kinds.body d__law_kinds.scope (d__law_kinds.dvs K) (d__law_kinds.kws K) (He.fAd K d__law_kinds.at_) fd) : Bnd K fd p__law_kinds 1 [] (fun ds _ => ds) :=
  bnd_pos F rfl (fun _ _ _ _ _ _ us hl => match us, hl with | [_], _ => rfl) 1 rfl
noncomputable def b__law_placed_0 : Fs := sAsg (eLst (aCons (eTup (aCons (eMk "BadWeb" "place" "no such web" (eVar 0)) (aCons (eMk "BadWeb" "place" "no such web" (eVar 0)) (aCons (eC (.str "BadWeb")) aNil)))) aNil)) (gSet 1)
noncomputable def b__law_placed_1 : Fs := sAsg (eOp gAdd (eVar 1) (eLst (aCons (eTup (aCons (eMk "BadLaurent" "place" "no such polynomial" (eVar 0)) (aCons (eMk "BadLaurent" "place" "no such polynomial" (eVar 0)) (aCons (eC (.str "BadLaurent")) aNil)))) aNil))) (gSet 1)
noncomputable def b__law_placed_2 : Fs := sAsg (eOp gAdd (eVar 1) (eLst (aCons (eTup (aCons (eMk "BadSeed" "place" "no such seed" (eVar 0)) (aCons (eMk "BadSeed" "place" "no such seed" (eVar 0)) (aCons (eC (.str "BadSeed")) aNil)))) aNil))) (gSet 1)
noncomputable def b__law_placed_3 : Fs := sAsg (eOp gAdd (eVar 1) (eLst (aCons (eTup (aCons (eMk "BadRow" "place" "no such row" (eVar 0)) (aCons (eMk "BadRow" "place" "no such row" (eVar 0)) (aCons (eC (.str "BadRow")) aNil)))) aNil))) (gSet 1)
noncomputable def b__law_placed_4 : Fs := sAsg (eOp gAdd (eVar 1) (eLst (aCons (eTup (aCons (eMk "BadType" "place" "no such kind" (eVar 0)) (aCons (eMk "BadType" "place" "no such kind" (eVar 0)) (aCons (eC (.str "BadType")) aNil)))) aNil))) (gSet 1)
noncomputable def b__law_placed_5 : Fs := sAsg (eOp gAdd (eVar 1) (eLst (aCons (eTup (aCons (eMk "BadSurface" "place" "no such surface" (eVar 0)) (aCons (eMk "BadSurface" "place" "no such surface" (eVar 0)) (aCons (eC (.str "BadSurface")) aNil)))) aNil))) (gSet 1)
noncomputable def b__law_placed_6 : Fs := sAsg (eOp gAdd (eVar 1) (eLst (aCons (eTup (aCons (eMk "BadFrieze" "place" "no such frieze" (eVar 0)) (aCons (eMk "BadFrieze" "place" "no such frieze" (eVar 0)) (aCons (eC (.str "BadFrieze")) aNil)))) aNil))) (gSet 1)
noncomputable def b__law_placed_7 : Fs := sAsg (eOp gAdd (eVar 1) (eLst (aCons (eTup (aCons (eMk "BadPattern" "place" "no such pattern" (eVar 0)) (aCons (eMk "BadPattern" "place" "no such pattern" (eVar 0)) (aCons (eC (.str "BadPattern")) aNil)))) aNil))) (gSet 1)
noncomputable def b__law_placed_8 : Fs := sAsg (eOp gAdd (eVar 1) (eLst (aCons (eTup (aCons (eMk "BadCartan" "place" "no such matrix" (eVar 0)) (aCons (eMk "BadCartan" "place" "no such matrix" (eVar 0)) (aCons (eC (.str "BadCartan")) aNil)))) aNil))) (gSet 1)
noncomputable def b__law_placed_9 : Fs := sAsg (eOp gAdd (eVar 1) (eLst (aCons (eTup (aCons (eMk "BadRoot" "place" "no such root" (eVar 0)) (aCons (eMk "BadRoot" "place" "no such root" (eVar 0)) (aCons (eC (.str "BadRoot")) aNil)))) aNil))) (gSet 1)
noncomputable def b__law_placed_10 : Fs := sAsg (eOp gAdd (eVar 1) (eLst (aCons (eTup (aCons (eMk "BadTriple" "place" "no such triple" (eVar 0)) (aCons (eMk "BadTriple" "place" "no such triple" (eVar 0)) (aCons (eC (.str "BadTriple")) aNil)))) aNil))) (gSet 1)
noncomputable def b__law_placed_11 : Fs := sAsg (eOp gAdd (eVar 1) (eLst (aCons (eTup (aCons (eMk "BadMap" "place" "no such permutation" (eVar 0)) (aCons (eMk "BadMap" "place" "no such permutation" (eVar 0)) (aCons (eC (.str "BadMap")) aNil)))) aNil))) (gSet 1)
noncomputable def b__law_placed_12 : Fs := sAsg (eOp gAdd (eVar 1) (eLst (aCons (eTup (aCons (eMk "BadText" "place" "no such text" (eVar 0)) (aCons (eMk "BadText" "place" "no such text" (eVar 0)) (aCons (eC (.str "BadText")) aNil)))) aNil))) (gSet 1)
noncomputable def b__law_placed_13 : Fs := sAsg (eOp gAdd (eVar 1) (eLst (aCons (eTup (aCons (eMk "BadPaper" "place" "no such paper" (eVar 0)) (aCons (eMk "BadPaper" "place" "no such paper" (eVar 0)) (aCons (eC (.str "BadPaper")) aNil)))) aNil))) (gSet 1)
noncomputable def b__law_placed_14 : Fs := sRet (eOp gAdd (eVar 1) (eLst (aCons (eTup (aCons (eMk "BadDeed" "place" "no such deed" (eVar 0)) (aCons (eMk "BadDeed" "place" "no such deed" (eVar 0)) (aCons (eC (.str "BadDeed")) aNil)))) aNil)))
noncomputable def b__law_placed : Fs := sSeq b__law_placed_0 (sSeq b__law_placed_1 (sSeq b__law_placed_2 (sSeq b__law_placed_3 (sSeq b__law_placed_4 (sSeq b__law_placed_5 (sSeq b__law_placed_6 (sSeq b__law_placed_7 (sSeq b__law_placed_8 (sSeq b__law_placed_9 (sSeq b__law_placed_10 (sSeq b__law_placed_11 (sSeq b__law_placed_12 (sSeq b__law_placed_13 (b__law_placed_14))))))))))))))
noncomputable def s__law_placed : List D → Hd → Res D := runF 2 b__law_placed
theorem ok__law_placed {P : Program} {w : World} {K : PySem.W.Frag} {mg : Str → Option Value} {base : Heap} (c : Fct K mg base) : FDx P w K mg (tabsOf K tf) base d__law_placed p__law_placed 1 s__law_placed := by
  refine fd_ok (k := 0) (N := N__law_placed) (fb := b__law_placed) c.F__law_placed sc__law_placed fun cdv A outer s H E hr => ?_
  refine dss_cons (f := b__law_placed_0) (ds_set 1 sc__law_placed.nd (de_lst (da_cons (de_tup (da_cons (de_mkP XBV c.v_BadWeb hr rfl (de_var 0) rfl) (da_cons (de_mkK XBV c.v_BadWeb hr rfl (de_var 0) rfl) (da_cons (de_str) (da_nil))))) (da_nil))) rfl (Or.inl rfl)) ?_
  refine dss_cons (f := b__law_placed_1) (ds_set 1 sc__law_placed.nd (de_op (od_add rfl) (de_var 1) (de_lst (da_cons (de_tup (da_cons (de_mkP XBV c.v_BadLaurent hr rfl (de_var 0) rfl) (da_cons (de_mkK XBV c.v_BadLaurent hr rfl (de_var 0) rfl) (da_cons (de_str) (da_nil))))) (da_nil)))) rfl (Or.inl rfl)) ?_
  refine dss_cons (f := b__law_placed_2) (ds_set 1 sc__law_placed.nd (de_op (od_add rfl) (de_var 1) (de_lst (da_cons (de_tup (da_cons (de_mkP XBV c.v_BadSeed hr rfl (de_var 0) rfl) (da_cons (de_mkK XBV c.v_BadSeed hr rfl (de_var 0) rfl) (da_cons (de_str) (da_nil))))) (da_nil)))) rfl (Or.inl rfl)) ?_
  refine dss_cons (f := b__law_placed_3) (ds_set 1 sc__law_placed.nd (de_op (od_add rfl) (de_var 1) (de_lst (da_cons (de_tup (da_cons (de_mkP XBV c.v_BadRow hr rfl (de_var 0) rfl) (da_cons (de_mkK XBV c.v_BadRow hr rfl (de_var 0) rfl) (da_cons (de_str) (da_nil))))) (da_nil)))) rfl (Or.inl rfl)) ?_
  refine dss_cons (f := b__law_placed_4) (ds_set 1 sc__law_placed.nd (de_op (od_add rfl) (de_var 1) (de_lst (da_cons (de_tup (da_cons (de_mkP XBV c.v_BadType hr rfl (de_var 0) rfl) (da_cons (de_mkK XBV c.v_BadType hr rfl (de_var 0) rfl) (da_cons (de_str) (da_nil))))) (da_nil)))) rfl (Or.inl rfl)) ?_
  refine dss_cons (f := b__law_placed_5) (ds_set 1 sc__law_placed.nd (de_op (od_add rfl) (de_var 1) (de_lst (da_cons (de_tup (da_cons (de_mkP XBV c.v_BadSurface hr rfl (de_var 0) rfl) (da_cons (de_mkK XBV c.v_BadSurface hr rfl (de_var 0) rfl) (da_cons (de_str) (da_nil))))) (da_nil)))) rfl (Or.inl rfl)) ?_
  refine dss_cons (f := b__law_placed_6) (ds_set 1 sc__law_placed.nd (de_op (od_add rfl) (de_var 1) (de_lst (da_cons (de_tup (da_cons (de_mkP XBV c.v_BadFrieze hr rfl (de_var 0) rfl) (da_cons (de_mkK XBV c.v_BadFrieze hr rfl (de_var 0) rfl) (da_cons (de_str) (da_nil))))) (da_nil)))) rfl (Or.inl rfl)) ?_
  refine dss_cons (f := b__law_placed_7) (ds_set 1 sc__law_placed.nd (de_op (od_add rfl) (de_var 1) (de_lst (da_cons (de_tup (da_cons (de_mkP XBV c.v_BadPattern hr rfl (de_var 0) rfl) (da_cons (de_mkK XBV c.v_BadPattern hr rfl (de_var 0) rfl) (da_cons (de_str) (da_nil))))) (da_nil)))) rfl (Or.inl rfl)) ?_
  refine dss_cons (f := b__law_placed_8) (ds_set 1 sc__law_placed.nd (de_op (od_add rfl) (de_var 1) (de_lst (da_cons (de_tup (da_cons (de_mkP XBV c.v_BadCartan hr rfl (de_var 0) rfl) (da_cons (de_mkK XBV c.v_BadCartan hr rfl (de_var 0) rfl) (da_cons (de_str) (da_nil))))) (da_nil)))) rfl (Or.inl rfl)) ?_
  refine dss_cons (f := b__law_placed_9) (ds_set 1 sc__law_placed.nd (de_op (od_add rfl) (de_var 1) (de_lst (da_cons (de_tup (da_cons (de_mkP XBV c.v_BadRoot hr rfl (de_var 0) rfl) (da_cons (de_mkK XBV c.v_BadRoot hr rfl (de_var 0) rfl) (da_cons (de_str) (da_nil))))) (da_nil)))) rfl (Or.inl rfl)) ?_
  refine dss_cons (f := b__law_placed_10) (ds_set 1 sc__law_placed.nd (de_op (od_add rfl) (de_var 1) (de_lst (da_cons (de_tup (da_cons (de_mkP XBV c.v_BadTriple hr rfl (de_var 0) rfl) (da_cons (de_mkK XBV c.v_BadTriple hr rfl (de_var 0) rfl) (da_cons (de_str) (da_nil))))) (da_nil)))) rfl (Or.inl rfl)) ?_
  refine dss_cons (f := b__law_placed_11) (ds_set 1 sc__law_placed.nd (de_op (od_add rfl) (de_var 1) (de_lst (da_cons (de_tup (da_cons (de_mkP XBV c.v_BadMap hr rfl (de_var 0) rfl) (da_cons (de_mkK XBV c.v_BadMap hr rfl (de_var 0) rfl) (da_cons (de_str) (da_nil))))) (da_nil)))) rfl (Or.inl rfl)) ?_
  refine dss_cons (f := b__law_placed_12) (ds_set 1 sc__law_placed.nd (de_op (od_add rfl) (de_var 1) (de_lst (da_cons (de_tup (da_cons (de_mkP XBV c.v_BadText hr rfl (de_var 0) rfl) (da_cons (de_mkK XBV c.v_BadText hr rfl (de_var 0) rfl) (da_cons (de_str) (da_nil))))) (da_nil)))) rfl (Or.inl rfl)) ?_
  refine dss_cons (f := b__law_placed_13) (ds_set 1 sc__law_placed.nd (de_op (od_add rfl) (de_var 1) (de_lst (da_cons (de_tup (da_cons (de_mkP XBV c.v_BadPaper hr rfl (de_var 0) rfl) (da_cons (de_mkK XBV c.v_BadPaper hr rfl (de_var 0) rfl) (da_cons (de_str) (da_nil))))) (da_nil)))) rfl (Or.inl rfl)) ?_
  exact dss_one (f := b__law_placed_14) (ds_ret (de_op (od_add rfl) (de_var 1) (de_lst (da_cons (de_tup (da_cons (de_mkP XBV c.v_BadDeed hr rfl (de_var 0) rfl) (da_cons (de_mkK XBV c.v_BadDeed hr rfl (de_var 0) rfl) (da_cons (de_str) (da_nil))))) (da_nil)))))
theorem bp__law_placed {K : PySem.W.Frag} (fd : FuncData) (F : FunD K d__law_placed.name d__law_placed.qual d__law_placed.params d__law_placed.body d__law_placed.scope (d__law_placed.dvs K) (d__law_placed.kws K) (He.fAd K d__law_placed.at_) fd) : Bnd K fd p__law_placed 1 [] (fun ds _ => ds) :=
  bnd_pos F rfl (fun _ _ _ _ _ _ us hl => match us, hl with | [_], _ => rfl) 1 rfl
noncomputable def b__law_right_0 : Fs := sFor (iOf (eCall s__law_valued (aCons (eVar 0) aNil))) (gUnp 3 (gsCons (gSet 1) (gsCons (gSet 2) (gsCons (gSet 3) gsNil)))) (sSeq (sIf (tOrD (tOf (eOp gNe (eCall s__law_kinds (aCons (eVar 1) aNil)) (eLst (aCons (eVar 3) (aCons (eC (.str "base")) (aCons (eC (.str "value")) aNil)))))) (tOf (eOp gNe (eCall s__law_kinds (aCons (eVar 2) aNil)) (eLst (aCons (eVar 3) (aCons (eC (.str "base")) (aCons (eC (.str "value")) aNil))))))) (sRet (eC (.bl false))) sNil)
    (sIf (tOrD (tOf (eOp gNe (eFldV "value" fcs_value (eVar 1)) (eVar 0))) (tOf (eOp gNe (eFldV "value" fcs_value (eVar 2)) (eVar 0)))) (sRet (eC (.bl false))) sNil))
noncomputable def b__law_right_1 : Fs := sFor (iOf (eCall s__law_placed (aCons (eVar 0) aNil))) (gUnp 3 (gsCons (gSet 1) (gsCons (gSet 2) (gsCons (gSet 3) gsNil)))) (sSeq (sIf (tOrD (tOf (eOp gNe (eCall s__law_kinds (aCons (eVar 1) aNil)) (eLst (aCons (eVar 3) (aCons (eC (.str "base")) (aCons (eC (.str "value")) aNil)))))) (tOf (eOp gNe (eCall s__law_kinds (aCons (eVar 2) aNil)) (eLst (aCons (eVar 3) (aCons (eC (.str "base")) (aCons (eC (.str "value")) aNil))))))) (sRet (eC (.bl false))) sNil)
    (sIf (tOrD (tOf (eOp gNe (eFldV "place" fcs_place (eVar 1)) (eVar 0))) (tOf (eOp gNe (eFldV "place" fcs_place (eVar 2)) (eVar 0)))) (sRet (eC (.bl false))) sNil))
noncomputable def b__law_right_2 : Fs := sFor (iOf (eTup (aCons (eMk "NoSuch" "value" "nothing so called" (eVar 0)) (aCons (eMk "NoSuch" "value" "nothing so called" (eVar 0)) aNil)))) (gSet 1) (sIf (tOrD (tOf (eOp gNe (eCall s__law_kinds (aCons (eVar 1) aNil)) (eLst (aCons (eC (.str "NoSuch")) (aCons (eC (.str "lookup")) aNil))))) (tOf (eOp gNe (eFldV "value" fcs_value (eVar 1)) (eVar 0)))) (sRet (eC (.bl false))) sNil)
noncomputable def b__law_right_3 : Fs := sFor (iOf (eTup (aCons (eMk "TooMany" "most" "too many" (eVar 0)) (aCons (eMk "TooMany" "most" "too many" (eVar 0)) aNil)))) (gSet 1) (sIf (tOrD (tOf (eOp gNe (eCall s__law_kinds (aCons (eVar 1) aNil)) (eLst (aCons (eC (.str "TooMany")) (aCons (eC (.str "overflow")) aNil))))) (tOf (eOp gNe (eFldV "most" fcs_most (eVar 1)) (eVar 0)))) (sRet (eC (.bl false))) sNil)
noncomputable def b__law_right_4 : Fs := sRet (eC (.bl true))
noncomputable def b__law_right : Fs := sSeq b__law_right_0 (sSeq b__law_right_1 (sSeq b__law_right_2 (sSeq b__law_right_3 (b__law_right_4))))
noncomputable def s__law_right : List D → Hd → Res D := runF 4 b__law_right
theorem ok__law_right {P : Program} {w : World} {K : PySem.W.Frag} {mg : Str → Option Value} {base : Heap} (c : Fct K mg base) : FDx P w K mg (tabsOf K tf) base d__law_right p__law_right 2 s__law_right := by
  refine fd_ok (k := 1) (N := N__law_right) (fb := b__law_right) c.F__law_right sc__law_right fun cdv A outer s H E hr => ?_
  refine dss_cons (f := b__law_right_0) (ds_for (passes_of rfl) rfl (di_of rfl (de_call (gD := fun ds _ => ds) (ok__law_valued c) (hr.mono (by decide)) rfl c.m__law_valued (takes_of rfl rfl rfl rfl) bp__law_valued (da_cons (de_var 0) (da_nil)) (al_cons (al_nil)))) (dg_unp rfl rfl (dgs_cons (dg_name 1 sc__law_right.nd) (dgs_cons (dg_name 2 sc__law_right.nd) (dgs_cons (dg_name 3 sc__law_right.nd) (dgs_nil))))) (dss_cons (ds_if (dt_bool (dw_or (dt_cmp (od_ne rfl hr.u64) (de_call (gD := fun ds _ => ds) (ok__law_kinds c) (hr.mono (by decide)) rfl c.m__law_kinds (takes_of rfl rfl rfl rfl) bp__law_kinds (da_cons (de_var 1) (da_nil)) (al_cons (al_nil))) (de_lst (da_cons (de_var 3) (da_cons (de_str) (da_cons (de_str) (da_nil))))) (by first | rfl | exact nomark _)) (dw_or1 (dt_cmp (od_ne rfl hr.u64) (de_call (gD := fun ds _ => ds) (ok__law_kinds c) (hr.mono (by decide)) rfl c.m__law_kinds (takes_of rfl rfl rfl rfl) bp__law_kinds (da_cons (de_var 2) (da_nil)) (al_cons (al_nil))) (de_lst (da_cons (de_var 3) (da_cons (de_str) (da_cons (de_str) (da_nil))))) (by first | rfl | exact nomark _))))) (dss_one (ds_ret (de_bl))) (dss_nil))
    (dss_one (ds_if (dt_bool (dw_or (dt_cmp (od_ne rfl hr.u64) (de_fldV rfl (xvs_value c) c.no_value (de_var 1)) (de_var 0) (by first | rfl | exact nomark _)) (dw_or1 (dt_cmp (od_ne rfl hr.u64) (de_fldV rfl (xvs_value c) c.no_value (de_var 2)) (de_var 0) (by first | rfl | exact nomark _))))) (dss_one (ds_ret (de_bl))) (dss_nil))))) ?_
  refine dss_cons (f := b__law_right_1) (ds_for (passes_of rfl) rfl (di_of rfl (de_call (gD := fun ds _ => ds) (ok__law_placed c) (hr.mono (by decide)) rfl c.m__law_placed (takes_of rfl rfl rfl rfl) bp__law_placed (da_cons (de_var 0) (da_nil)) (al_cons (al_nil)))) (dg_unp rfl rfl (dgs_cons (dg_name 1 sc__law_right.nd) (dgs_cons (dg_name 2 sc__law_right.nd) (dgs_cons (dg_name 3 sc__law_right.nd) (dgs_nil))))) (dss_cons (ds_if (dt_bool (dw_or (dt_cmp (od_ne rfl hr.u64) (de_call (gD := fun ds _ => ds) (ok__law_kinds c) (hr.mono (by decide)) rfl c.m__law_kinds (takes_of rfl rfl rfl rfl) bp__law_kinds (da_cons (de_var 1) (da_nil)) (al_cons (al_nil))) (de_lst (da_cons (de_var 3) (da_cons (de_str) (da_cons (de_str) (da_nil))))) (by first | rfl | exact nomark _)) (dw_or1 (dt_cmp (od_ne rfl hr.u64) (de_call (gD := fun ds _ => ds) (ok__law_kinds c) (hr.mono (by decide)) rfl c.m__law_kinds (takes_of rfl rfl rfl rfl) bp__law_kinds (da_cons (de_var 2) (da_nil)) (al_cons (al_nil))) (de_lst (da_cons (de_var 3) (da_cons (de_str) (da_cons (de_str) (da_nil))))) (by first | rfl | exact nomark _))))) (dss_one (ds_ret (de_bl))) (dss_nil))
    (dss_one (ds_if (dt_bool (dw_or (dt_cmp (od_ne rfl hr.u64) (de_fldV rfl (xvs_place c) c.no_place (de_var 1)) (de_var 0) (by first | rfl | exact nomark _)) (dw_or1 (dt_cmp (od_ne rfl hr.u64) (de_fldV rfl (xvs_place c) c.no_place (de_var 2)) (de_var 0) (by first | rfl | exact nomark _))))) (dss_one (ds_ret (de_bl))) (dss_nil))))) ?_
  refine dss_cons (f := b__law_right_2) (ds_for (passes_of rfl) rfl (di_of rfl (de_tup (da_cons (de_mkP XBL c.v_NoSuch hr rfl (de_var 0) rfl) (da_cons (de_mkK XBL c.v_NoSuch hr rfl (de_var 0) rfl) (da_nil))))) (dg_name 1 sc__law_right.nd) (dss_one (ds_if (dt_bool (dw_or (dt_cmp (od_ne rfl hr.u64) (de_call (gD := fun ds _ => ds) (ok__law_kinds c) (hr.mono (by decide)) rfl c.m__law_kinds (takes_of rfl rfl rfl rfl) bp__law_kinds (da_cons (de_var 1) (da_nil)) (al_cons (al_nil))) (de_lst (da_cons (de_str) (da_cons (de_str) (da_nil)))) (by first | rfl | exact nomark _)) (dw_or1 (dt_cmp (od_ne rfl hr.u64) (de_fldV rfl (xvs_value c) c.no_value (de_var 1)) (de_var 0) (by first | rfl | exact nomark _))))) (dss_one (ds_ret (de_bl))) (dss_nil)))) ?_
  refine dss_cons (f := b__law_right_3) (ds_for (passes_of rfl) rfl (di_of rfl (de_tup (da_cons (de_mkP XBO c.v_TooMany hr rfl (de_var 0) rfl) (da_cons (de_mkK XBO c.v_TooMany hr rfl (de_var 0) rfl) (da_nil))))) (dg_name 1 sc__law_right.nd) (dss_one (ds_if (dt_bool (dw_or (dt_cmp (od_ne rfl hr.u64) (de_call (gD := fun ds _ => ds) (ok__law_kinds c) (hr.mono (by decide)) rfl c.m__law_kinds (takes_of rfl rfl rfl rfl) bp__law_kinds (da_cons (de_var 1) (da_nil)) (al_cons (al_nil))) (de_lst (da_cons (de_str) (da_cons (de_str) (da_nil)))) (by first | rfl | exact nomark _)) (dw_or1 (dt_cmp (od_ne rfl hr.u64) (de_fldV rfl (xvs_most c) c.no_most (de_var 1)) (de_var 0) (by first | rfl | exact nomark _))))) (dss_one (ds_ret (de_bl))) (dss_nil)))) ?_
  exact dss_one (f := b__law_right_4) (ds_ret (de_bl))
theorem bp__law_right {K : PySem.W.Frag} (fd : FuncData) (F : FunD K d__law_right.name d__law_right.qual d__law_right.params d__law_right.body d__law_right.scope (d__law_right.dvs K) (d__law_right.kws K) (He.fAd K d__law_right.at_) fd) : Bnd K fd p__law_right 1 [] (fun ds _ => ds) :=
  bnd_pos F rfl (fun _ _ _ _ _ _ us hl => match us, hl with | [_], _ => rfl) 1 rfl
noncomputable def b_law_0 : Fs := sFor (iEnm (eOp gAdd (eSl (eVar 0) oNone (oSome (eC (.int 4)))) (eLst (aCons (eCall gSum (aCons (eVar 0) aNil)) aNil)))) (gUnp 2 (gsCons (gSet 1) (gsCons (gSet 2) gsNil))) (sSeq (sAsg (eCall s__law_draw (aCons (eVar 2) (aCons (eVar 1) aNil))) (gSet 3))
    (sSeq (sAsg (eCall s__law_digit (aCons (eVar 3) (aCons (eC (.int 100000)) aNil))) (gSet 4))
    (sSeq (sAsg (eLst (aCons (eVar 4) (aCons (eOp gSub (eC (.int 0)) (eVar 4)) (aCons (eOp gMulS (eC (.str "ab")) (eOp gMod (eVar 4) (eC (.int 50)))) (aCons (eTup (aCons (eC (.str "atom")) (aCons (eTup (aCons (eC (.int 0)) (aCons (eVar 4) aNil))) aNil))) (aCons (eC .non) (aCons (eTup (aCons (eOp gPow (eC (.int 10)) (eC (.int 30))) (aCons (eTup aNil) aNil))) (aCons (eOp gMul (eTup (aCons (eVar 4) aNil)) (eC (.int 9))) aNil)))))))) (gSet 5))
    (sIf (tOrD (tNotD (tOf (eCall s__law_right (aCons (eOp gIx (eVar 5) (eCall s__law_digit (aCons (eVar 3) (aCons (eC (.int 7)) aNil)))) aNil)))) (tNotD (tOf (eCall s__law_right (aCons (eOp gPowB (eOp gPowB (eOp gPow (eC (.int 10)) (eC (.int 50))) (eC (.int 50))) (eC (.int 2))) aNil))))) (sRet (eC (.bl false))) sNil))))
noncomputable def b_law_1 : Fs := sAsg (eLst (aCons (eMk "BadNumber" "value" "no such number" (eC .non)) (aCons (eMk "BadPoint" "value" "no such point" (eC .non)) (aCons (eMk "NoSuch" "value" "nothing so called" (eC .non)) aNil)))) (gSet 5)
noncomputable def b_law_2 : Fs := sAsg (eLst (aCons (eMk "BadWeb" "place" "no such web" (eC .non)) (aCons (eMk "BadLaurent" "place" "no such polynomial" (eC .non)) (aCons (eMk "BadSeed" "place" "no such seed" (eC .non)) (aCons (eMk "BadRow" "place" "no such row" (eC .non)) (aCons (eMk "BadType" "place" "no such kind" (eC .non)) (aCons (eMk "BadSurface" "place" "no such surface" (eC .non)) (aCons (eMk "BadFrieze" "place" "no such frieze" (eC .non)) aNil)))))))) (gSet 6)
noncomputable def b_law_3 : Fs := sAsg (eOp gAdd (eVar 6) (eLst (aCons (eMk "BadPattern" "place" "no such pattern" (eC .non)) (aCons (eMk "BadCartan" "place" "no such matrix" (eC .non)) (aCons (eMk "BadRoot" "place" "no such root" (eC .non)) (aCons (eMk "BadTriple" "place" "no such triple" (eC .non)) (aCons (eMk "BadMap" "place" "no such permutation" (eC .non)) (aCons (eMk "BadText" "place" "no such text" (eC .non)) (aCons (eMk "BadPaper" "place" "no such paper" (eC .non)) (aCons (eMk "BadDeed" "place" "no such deed" (eC .non)) aNil)))))))))) (gSet 6)
noncomputable def b_law_4 : Fs := sIf (tOrD (tOf (eOp gNe (eLc (iOf (eVar 5)) (gSet 9) tYesD (eFldV "value" fcs_value (eVar 9)) [9]) (eOp gMul (eLst (aCons (eC .non) aNil)) (eC (.int 3))))) (tOf (eOp gNe (eLc (iOf (eVar 6)) (gSet 9) tYesD (eFldV "place" fcs_place (eVar 9)) [9]) (eOp gMul (eLst (aCons (eC .non) aNil)) (eC (.int 15)))))) (sRet (eC (.bl false))) sNil
noncomputable def b_law_5 : Fs := sFor (iOf (eTup (aCons (eC (.str "zqzq")) (aCons (eOp gPow (eC (.int 10)) (eC (.int 30))) (aCons (eC (.int 70707)) aNil))))) (gSet 7) (sSeq (sAsg (eOp gAdd (eLc (iOf (eOp gAdd (eCall s__law_valued (aCons (eVar 7) aNil)) (eCall s__law_placed (aCons (eVar 7) aNil)))) (gUnp 3 (gsCons (gSet 10) (gsCons (gSet 11) (gsCons (gSet 12) gsNil)))) tYesD (eVar 10) [10, 11, 12]) (eLst (aCons (eMk "NoSuch" "value" "nothing so called" (eVar 7)) (aCons (eMk "TooMany" "most" "too many" (eVar 7)) aNil)))) (gSet 8))
    (sIf (tOf (eOp gNe (eLc (iOf (eVar 8)) (gSet 9) (tOf (eOp gInS (eCall (gStr vcs) (aCons (eVar 7) aNil)) (eCall (gStr vcs) (aCons (eVar 9) aNil)))) (eVar 9) [9]) (eLst aNil))) (sRet (eC (.bl false))) sNil))
noncomputable def b_law_6 : Fs := sRet (eC (.bl true))
noncomputable def b_law : Fs := sSeq b_law_0 (sSeq b_law_1 (sSeq b_law_2 (sSeq b_law_3 (sSeq b_law_4 (sSeq b_law_5 (b_law_6))))))
noncomputable def s_law : List D → Hd → Res D := runF 13 b_law
theorem ok_law {P : Program} {w : World} {K : PySem.W.Frag} {mg : Str → Option Value} {base : Heap} (c : Fct K mg base) : FDx P w K mg (tabsOf K tf) base d_law p_law 3 s_law := by
  refine fd_ok (k := 2) (N := N_law) (fb := b_law) c.F_law sc_law fun cdv A outer s H E hr => ?_
  refine dss_cons (f := b_law_0) (ds_for (passes_of rfl) rfl (di_enum rfl rfl c.f_enumerate (de_op (od_add rfl) (de_sl rfl (de_var 0) (do_none) (do_some (de_int))) (de_lst (da_cons (de_callB (cd_sum rfl rfl) rfl c.f_sum PyProof.Rows.Boot.«sum» (da_cons (de_var 0) (da_nil))) (da_nil))))) (dg_unp rfl rfl (dgs_cons (dg_name 1 sc_law.nd) (dgs_cons (dg_name 2 sc_law.nd) (dgs_nil)))) (dss_cons (ds_set 3 sc_law.nd (de_call (gD := fun ds _ => ds) (ok__law_draw c) (hr.mono (by decide)) rfl c.m__law_draw (takes_of rfl rfl rfl rfl) bp__law_draw (da_cons (de_var 2) (da_cons (de_var 1) (da_nil))) (al_cons (al_cons (al_nil)))) rfl (Or.inl rfl))
    (dss_cons (ds_set 4 sc_law.nd (de_call (gD := fun ds _ => ds) (ok__law_digit c) (hr.mono (by decide)) rfl c.m__law_digit (takes_of rfl rfl rfl rfl) bp__law_digit (da_cons (de_var 3) (da_cons (de_int) (da_nil))) (al_cons (al_cons (al_nil)))) rfl (Or.inl rfl))
    (dss_cons (ds_set 5 sc_law.nd (de_lst (da_cons (de_var 4) (da_cons (de_op (od_sub) (de_int) (de_var 4)) (da_cons (de_op (od_mulS) (de_str) (de_op (od_mod) (de_var 4) (de_int))) (da_cons (de_tup (da_cons (de_str) (da_cons (de_tup (da_cons (de_int) (da_cons (de_var 4) (da_nil)))) (da_nil)))) (da_cons (de_non) (da_cons (de_tup (da_cons (de_op (od_pow) (de_int) (de_int)) (da_cons (de_tup (da_nil)) (da_nil)))) (da_cons (de_op (od_mul rfl) (de_tup (da_cons (de_var 4) (da_nil))) (de_int)) (da_nil))))))))) rfl (Or.inl rfl))
    (dss_one (ds_if (dt_bool (dw_or (dt_not (dt_val (de_call (gD := fun ds _ => ds) (ok__law_right c) (hr.mono (by decide)) rfl c.m__law_right (takes_of rfl rfl rfl rfl) bp__law_right (da_cons (de_ix (ixd rfl hr.u1) (de_var 5) (de_call (gD := fun ds _ => ds) (ok__law_digit c) (hr.mono (by decide)) rfl c.m__law_digit (takes_of rfl rfl rfl rfl) bp__law_digit (da_cons (de_var 3) (da_cons (de_int) (da_nil))) (al_cons (al_cons (al_nil))))) (da_nil)) (al_cons (al_nil))))) (dw_or1 (dt_not (dt_val (de_call (gD := fun ds _ => ds) (ok__law_right c) (hr.mono (by decide)) rfl c.m__law_right (takes_of rfl rfl rfl rfl) bp__law_right (da_cons (de_op (od_powB) (de_op (od_powB) (de_op (od_pow) (de_int) (de_int)) (de_int)) (de_int)) (da_nil)) (al_cons (al_nil)))))))) (dss_one (ds_ret (de_bl))) (dss_nil))))))) ?_
  refine dss_cons (f := b_law_1) (ds_set 5 sc_law.nd (de_lst (da_cons (de_mk0 XBV c.v_BadNumber hr rfl rfl) (da_cons (de_mk0 XBV c.v_BadPoint hr rfl rfl) (da_cons (de_mk0 XBL c.v_NoSuch hr rfl rfl) (da_nil))))) rfl (Or.inl rfl)) ?_
  refine dss_cons (f := b_law_2) (ds_set 6 sc_law.nd (de_lst (da_cons (de_mk0 XBV c.v_BadWeb hr rfl rfl) (da_cons (de_mk0 XBV c.v_BadLaurent hr rfl rfl) (da_cons (de_mk0 XBV c.v_BadSeed hr rfl rfl) (da_cons (de_mk0 XBV c.v_BadRow hr rfl rfl) (da_cons (de_mk0 XBV c.v_BadType hr rfl rfl) (da_cons (de_mk0 XBV c.v_BadSurface hr rfl rfl) (da_cons (de_mk0 XBV c.v_BadFrieze hr rfl rfl) (da_nil))))))))) rfl (Or.inl rfl)) ?_
  refine dss_cons (f := b_law_3) (ds_set 6 sc_law.nd (de_op (od_add rfl) (de_var 6) (de_lst (da_cons (de_mk0 XBV c.v_BadPattern hr rfl rfl) (da_cons (de_mk0 XBV c.v_BadCartan hr rfl rfl) (da_cons (de_mk0 XBV c.v_BadRoot hr rfl rfl) (da_cons (de_mk0 XBV c.v_BadTriple hr rfl rfl) (da_cons (de_mk0 XBV c.v_BadMap hr rfl rfl) (da_cons (de_mk0 XBV c.v_BadText hr rfl rfl) (da_cons (de_mk0 XBV c.v_BadPaper hr rfl rfl) (da_cons (de_mk0 XBV c.v_BadDeed hr rfl rfl) (da_nil))))))))))) rfl (Or.inl rfl)) ?_
  refine dss_cons (f := b_law_4) (ds_if (dt_bool (dw_or (dt_cmp (od_ne rfl hr.u64) (de_lc (own := [("e", 9)]) (ts := [9]) rfl sc_law.nd (di_of rfl (de_var 5)) (blkOk_by (N := N_law) (sc := defScope st_law) (by decide +kernel)) (by decide) (fun _ _ _ _ _ => dg_name 9 sc_law.nd) (fun _ _ _ _ _ => dts_nil) (fun _ _ _ _ _ => de_fldV rfl (xvs_value c) c.no_value (de_var 9))) (de_op (od_mul rfl) (de_lst (da_cons (de_non) (da_nil))) (de_int)) (by first | rfl | exact nomark _)) (dw_or1 (dt_cmp (od_ne rfl hr.u64) (de_lc (own := [("e", 9)]) (ts := [9]) rfl sc_law.nd (di_of rfl (de_var 6)) (blkOk_by (N := N_law) (sc := defScope st_law) (by decide +kernel)) (by decide) (fun _ _ _ _ _ => dg_name 9 sc_law.nd) (fun _ _ _ _ _ => dts_nil) (fun _ _ _ _ _ => de_fldV rfl (xvs_place c) c.no_place (de_var 9))) (de_op (od_mul rfl) (de_lst (da_cons (de_non) (da_nil))) (de_int)) (by first | rfl | exact nomark _))))) (dss_one (ds_ret (de_bl))) (dss_nil)) ?_
  refine dss_cons (f := b_law_5) (ds_for (passes_of rfl) rfl (di_of rfl (de_tup (da_cons (de_str) (da_cons (de_op (od_pow) (de_int) (de_int)) (da_cons (de_int) (da_nil)))))) (dg_name 7 sc_law.nd) (dss_cons (ds_set 8 sc_law.nd (de_op (od_add rfl) (de_lc (own := [("one", 10), ("other", 11), ("name", 12)]) (ts := [10, 11, 12]) rfl sc_law.nd (di_of rfl (de_op (od_add rfl) (de_call (gD := fun ds _ => ds) (ok__law_valued c) (hr.mono (by decide)) rfl c.m__law_valued (takes_of rfl rfl rfl rfl) bp__law_valued (da_cons (de_var 7) (da_nil)) (al_cons (al_nil))) (de_call (gD := fun ds _ => ds) (ok__law_placed c) (hr.mono (by decide)) rfl c.m__law_placed (takes_of rfl rfl rfl rfl) bp__law_placed (da_cons (de_var 7) (da_nil)) (al_cons (al_nil))))) (blkOk_by (N := N_law) (sc := defScope st_law) (by decide +kernel)) (by decide) (fun _ _ _ _ _ => dg_unp rfl rfl (dgs_cons (dg_name 10 sc_law.nd) (dgs_cons (dg_name 11 sc_law.nd) (dgs_cons (dg_name 12 sc_law.nd) (dgs_nil))))) (fun _ _ _ _ _ => dts_nil) (fun _ _ _ _ _ => de_var 10)) (de_lst (da_cons (de_mkP XBL c.v_NoSuch hr rfl (de_var 7) rfl) (da_cons (de_mkP XBO c.v_TooMany hr rfl (de_var 7) rfl) (da_nil))))) rfl (Or.inl rfl))
    (dss_one (ds_if (dt_cmp (od_ne rfl hr.u64) (de_lc (own := [("e", 9)]) (ts := [9]) rfl sc_law.nd (di_of rfl (de_var 8)) (blkOk_by (N := N_law) (sc := defScope st_law) (by decide +kernel)) (by decide) (fun _ _ _ _ _ => dg_name 9 sc_law.nd) (fun _ _ _ _ _ => dts_one (dt_cmp (od_inS) (de_callT (cd_str rfl hr.u64 (xvs_all c)) rfl c.f_str PyProof.Rows.Boot.«str» (da_cons (de_var 7) (da_nil))) (de_callT (cd_str rfl hr.u64 (xvs_all c)) rfl c.f_str PyProof.Rows.Boot.«str» (da_cons (de_var 9) (da_nil))) (by first | rfl | exact nomark _))) (fun _ _ _ _ _ => de_var 9)) (de_lst (da_nil)) (by first | rfl | exact nomark _)) (dss_one (ds_ret (de_bl))) (dss_nil))))) ?_
  exact dss_one (f := b_law_6) (ds_ret (de_bl))
theorem mkF {K : PySem.W.Frag} {h : Heap} {mg : Str → Option Value} (X : K.In h) (G : h.Ns mainGlobals mg) (z : obsK fs fn K = He.valD fn) (nd : (tf.map fun p => (He.cT K p).2).Nodup) {base : Heap} (tb : ∀ p ∈ tf, LamX.TabB base mg (He.cT K p).1 (He.cT K p).2) : Fct K mg base where
  tb := tb
  nd := nd
  f_sum := He.free_ok X G (fact z 0)
  f_enumerate := He.free_ok X G (fact z 1)
  m__law_draw := He.glo_ok X G (fact z 2)
  f_range := He.free_ok X G (fact z 3)
  m__law_mixed := He.glo_ok X G (fact z 4)
  m__law_digit := He.glo_ok X G (fact z 5)
  x_BadNumber := xc_ok (own := true) (T := "ValueError") X G (fact z 6) (fun h => by cases h) (by decide) (by decide) (by decide) (by decide) (by decide) (def_ z 8 (d := d_BadNumber_init)) rfl (fun _ => ⟨_, rfl⟩) (fun _ _ _ _ _ _ _ us its hu hi => match us, its, hu, hi with | [_, _], [_], _, _ => ⟨_, rfl, rfl⟩)
  m_BadNumber := He.glo_ok X G (fact z 7)
  v_BadNumber := xv_ok (xc_ok (own := true) (T := "ValueError") X G (fact z 6) (fun h => by cases h) (by decide) (by decide) (by decide) (by decide) (by decide) (def_ z 8 (d := d_BadNumber_init)) rfl (fun _ => ⟨_, rfl⟩) (fun _ _ _ _ _ _ _ us its hu hi => match us, its, hu, hi with | [_, _], [_], _, _ => ⟨_, rfl, rfl⟩)) (fact z 8) (def_ z 8 (d := d_BadNumber_init)) (fun _ => ⟨_, rfl⟩) (fun _ _ _ _ _ _ _ _ _ its hi => match its, hi with | [_], _ => ⟨_, rfl, rfl⟩) (fun _ _ _ _ _ _ _ _ _ its hi => match its, hi with | [_], _ => ⟨_, rfl, rfl⟩) (fun _ _ _ _ _ _ _ _ _ => ⟨_, rfl, rfl⟩)
  x_BadPoint := xc_ok (own := true) (T := "ValueError") X G (fact z 9) (fun h => by cases h) (by decide) (by decide) (by decide) (by decide) (by decide) (def_ z 9 (d := d_BadPoint_init)) rfl (fun _ => ⟨_, rfl⟩) (fun _ _ _ _ _ _ _ us its hu hi => match us, its, hu, hi with | [_, _], [_], _, _ => ⟨_, rfl, rfl⟩)
  m_BadPoint := He.glo_ok X G (fact z 10)
  v_BadPoint := xv_ok (xc_ok (own := true) (T := "ValueError") X G (fact z 9) (fun h => by cases h) (by decide) (by decide) (by decide) (by decide) (by decide) (def_ z 9 (d := d_BadPoint_init)) rfl (fun _ => ⟨_, rfl⟩) (fun _ _ _ _ _ _ _ us its hu hi => match us, its, hu, hi with | [_, _], [_], _, _ => ⟨_, rfl, rfl⟩)) (fact z 11) (def_ z 9 (d := d_BadPoint_init)) (fun _ => ⟨_, rfl⟩) (fun _ _ _ _ _ _ _ _ _ its hi => match its, hi with | [_], _ => ⟨_, rfl, rfl⟩) (fun _ _ _ _ _ _ _ _ _ its hi => match its, hi with | [_], _ => ⟨_, rfl, rfl⟩) (fun _ _ _ _ _ _ _ _ _ => ⟨_, rfl, rfl⟩)
  x_BadWeb := xc_ok (own := true) (T := "ValueError") X G (fact z 12) (fun h => by cases h) (by decide) (by decide) (by decide) (by decide) (by decide) (def_ z 10 (d := d_BadWeb_init)) rfl (fun _ => ⟨_, rfl⟩) (fun _ _ _ _ _ _ _ us its hu hi => match us, its, hu, hi with | [_, _], [_], _, _ => ⟨_, rfl, rfl⟩)
  m_BadWeb := He.glo_ok X G (fact z 13)
  v_BadWeb := xv_ok (xc_ok (own := true) (T := "ValueError") X G (fact z 12) (fun h => by cases h) (by decide) (by decide) (by decide) (by decide) (by decide) (def_ z 10 (d := d_BadWeb_init)) rfl (fun _ => ⟨_, rfl⟩) (fun _ _ _ _ _ _ _ us its hu hi => match us, its, hu, hi with | [_, _], [_], _, _ => ⟨_, rfl, rfl⟩)) (fact z 14) (def_ z 10 (d := d_BadWeb_init)) (fun _ => ⟨_, rfl⟩) (fun _ _ _ _ _ _ _ _ _ its hi => match its, hi with | [_], _ => ⟨_, rfl, rfl⟩) (fun _ _ _ _ _ _ _ _ _ its hi => match its, hi with | [_], _ => ⟨_, rfl, rfl⟩) (fun _ _ _ _ _ _ _ _ _ => ⟨_, rfl, rfl⟩)
  x_BadLaurent := xc_ok (own := true) (T := "ValueError") X G (fact z 15) (fun h => by cases h) (by decide) (by decide) (by decide) (by decide) (by decide) (def_ z 11 (d := d_BadLaurent_init)) rfl (fun _ => ⟨_, rfl⟩) (fun _ _ _ _ _ _ _ us its hu hi => match us, its, hu, hi with | [_, _], [_], _, _ => ⟨_, rfl, rfl⟩)
  m_BadLaurent := He.glo_ok X G (fact z 16)
  v_BadLaurent := xv_ok (xc_ok (own := true) (T := "ValueError") X G (fact z 15) (fun h => by cases h) (by decide) (by decide) (by decide) (by decide) (by decide) (def_ z 11 (d := d_BadLaurent_init)) rfl (fun _ => ⟨_, rfl⟩) (fun _ _ _ _ _ _ _ us its hu hi => match us, its, hu, hi with | [_, _], [_], _, _ => ⟨_, rfl, rfl⟩)) (fact z 17) (def_ z 11 (d := d_BadLaurent_init)) (fun _ => ⟨_, rfl⟩) (fun _ _ _ _ _ _ _ _ _ its hi => match its, hi with | [_], _ => ⟨_, rfl, rfl⟩) (fun _ _ _ _ _ _ _ _ _ its hi => match its, hi with | [_], _ => ⟨_, rfl, rfl⟩) (fun _ _ _ _ _ _ _ _ _ => ⟨_, rfl, rfl⟩)
  x_BadSeed := xc_ok (own := true) (T := "ValueError") X G (fact z 18) (fun h => by cases h) (by decide) (by decide) (by decide) (by decide) (by decide) (def_ z 12 (d := d_BadSeed_init)) rfl (fun _ => ⟨_, rfl⟩) (fun _ _ _ _ _ _ _ us its hu hi => match us, its, hu, hi with | [_, _], [_], _, _ => ⟨_, rfl, rfl⟩)
  m_BadSeed := He.glo_ok X G (fact z 19)
  v_BadSeed := xv_ok (xc_ok (own := true) (T := "ValueError") X G (fact z 18) (fun h => by cases h) (by decide) (by decide) (by decide) (by decide) (by decide) (def_ z 12 (d := d_BadSeed_init)) rfl (fun _ => ⟨_, rfl⟩) (fun _ _ _ _ _ _ _ us its hu hi => match us, its, hu, hi with | [_, _], [_], _, _ => ⟨_, rfl, rfl⟩)) (fact z 20) (def_ z 12 (d := d_BadSeed_init)) (fun _ => ⟨_, rfl⟩) (fun _ _ _ _ _ _ _ _ _ its hi => match its, hi with | [_], _ => ⟨_, rfl, rfl⟩) (fun _ _ _ _ _ _ _ _ _ its hi => match its, hi with | [_], _ => ⟨_, rfl, rfl⟩) (fun _ _ _ _ _ _ _ _ _ => ⟨_, rfl, rfl⟩)
  x_BadRow := xc_ok (own := true) (T := "ValueError") X G (fact z 21) (fun h => by cases h) (by decide) (by decide) (by decide) (by decide) (by decide) (def_ z 13 (d := d_BadRow_init)) rfl (fun _ => ⟨_, rfl⟩) (fun _ _ _ _ _ _ _ us its hu hi => match us, its, hu, hi with | [_, _], [_], _, _ => ⟨_, rfl, rfl⟩)
  m_BadRow := He.glo_ok X G (fact z 22)
  v_BadRow := xv_ok (xc_ok (own := true) (T := "ValueError") X G (fact z 21) (fun h => by cases h) (by decide) (by decide) (by decide) (by decide) (by decide) (def_ z 13 (d := d_BadRow_init)) rfl (fun _ => ⟨_, rfl⟩) (fun _ _ _ _ _ _ _ us its hu hi => match us, its, hu, hi with | [_, _], [_], _, _ => ⟨_, rfl, rfl⟩)) (fact z 23) (def_ z 13 (d := d_BadRow_init)) (fun _ => ⟨_, rfl⟩) (fun _ _ _ _ _ _ _ _ _ its hi => match its, hi with | [_], _ => ⟨_, rfl, rfl⟩) (fun _ _ _ _ _ _ _ _ _ its hi => match its, hi with | [_], _ => ⟨_, rfl, rfl⟩) (fun _ _ _ _ _ _ _ _ _ => ⟨_, rfl, rfl⟩)
  x_BadType := xc_ok (own := true) (T := "ValueError") X G (fact z 24) (fun h => by cases h) (by decide) (by decide) (by decide) (by decide) (by decide) (def_ z 14 (d := d_BadType_init)) rfl (fun _ => ⟨_, rfl⟩) (fun _ _ _ _ _ _ _ us its hu hi => match us, its, hu, hi with | [_, _], [_], _, _ => ⟨_, rfl, rfl⟩)
  m_BadType := He.glo_ok X G (fact z 25)
  v_BadType := xv_ok (xc_ok (own := true) (T := "ValueError") X G (fact z 24) (fun h => by cases h) (by decide) (by decide) (by decide) (by decide) (by decide) (def_ z 14 (d := d_BadType_init)) rfl (fun _ => ⟨_, rfl⟩) (fun _ _ _ _ _ _ _ us its hu hi => match us, its, hu, hi with | [_, _], [_], _, _ => ⟨_, rfl, rfl⟩)) (fact z 26) (def_ z 14 (d := d_BadType_init)) (fun _ => ⟨_, rfl⟩) (fun _ _ _ _ _ _ _ _ _ its hi => match its, hi with | [_], _ => ⟨_, rfl, rfl⟩) (fun _ _ _ _ _ _ _ _ _ its hi => match its, hi with | [_], _ => ⟨_, rfl, rfl⟩) (fun _ _ _ _ _ _ _ _ _ => ⟨_, rfl, rfl⟩)
  x_BadSurface := xc_ok (own := true) (T := "ValueError") X G (fact z 27) (fun h => by cases h) (by decide) (by decide) (by decide) (by decide) (by decide) (def_ z 15 (d := d_BadSurface_init)) rfl (fun _ => ⟨_, rfl⟩) (fun _ _ _ _ _ _ _ us its hu hi => match us, its, hu, hi with | [_, _], [_], _, _ => ⟨_, rfl, rfl⟩)
  m_BadSurface := He.glo_ok X G (fact z 28)
  v_BadSurface := xv_ok (xc_ok (own := true) (T := "ValueError") X G (fact z 27) (fun h => by cases h) (by decide) (by decide) (by decide) (by decide) (by decide) (def_ z 15 (d := d_BadSurface_init)) rfl (fun _ => ⟨_, rfl⟩) (fun _ _ _ _ _ _ _ us its hu hi => match us, its, hu, hi with | [_, _], [_], _, _ => ⟨_, rfl, rfl⟩)) (fact z 29) (def_ z 15 (d := d_BadSurface_init)) (fun _ => ⟨_, rfl⟩) (fun _ _ _ _ _ _ _ _ _ its hi => match its, hi with | [_], _ => ⟨_, rfl, rfl⟩) (fun _ _ _ _ _ _ _ _ _ its hi => match its, hi with | [_], _ => ⟨_, rfl, rfl⟩) (fun _ _ _ _ _ _ _ _ _ => ⟨_, rfl, rfl⟩)
  x_BadFrieze := xc_ok (own := true) (T := "ValueError") X G (fact z 30) (fun h => by cases h) (by decide) (by decide) (by decide) (by decide) (by decide) (def_ z 16 (d := d_BadFrieze_init)) rfl (fun _ => ⟨_, rfl⟩) (fun _ _ _ _ _ _ _ us its hu hi => match us, its, hu, hi with | [_, _], [_], _, _ => ⟨_, rfl, rfl⟩)
  m_BadFrieze := He.glo_ok X G (fact z 31)
  v_BadFrieze := xv_ok (xc_ok (own := true) (T := "ValueError") X G (fact z 30) (fun h => by cases h) (by decide) (by decide) (by decide) (by decide) (by decide) (def_ z 16 (d := d_BadFrieze_init)) rfl (fun _ => ⟨_, rfl⟩) (fun _ _ _ _ _ _ _ us its hu hi => match us, its, hu, hi with | [_, _], [_], _, _ => ⟨_, rfl, rfl⟩)) (fact z 32) (def_ z 16 (d := d_BadFrieze_init)) (fun _ => ⟨_, rfl⟩) (fun _ _ _ _ _ _ _ _ _ its hi => match its, hi with | [_], _ => ⟨_, rfl, rfl⟩) (fun _ _ _ _ _ _ _ _ _ its hi => match its, hi with | [_], _ => ⟨_, rfl, rfl⟩) (fun _ _ _ _ _ _ _ _ _ => ⟨_, rfl, rfl⟩)
  x_BadPattern := xc_ok (own := true) (T := "ValueError") X G (fact z 33) (fun h => by cases h) (by decide) (by decide) (by decide) (by decide) (by decide) (def_ z 17 (d := d_BadPattern_init)) rfl (fun _ => ⟨_, rfl⟩) (fun _ _ _ _ _ _ _ us its hu hi => match us, its, hu, hi with | [_, _], [_], _, _ => ⟨_, rfl, rfl⟩)
  m_BadPattern := He.glo_ok X G (fact z 34)
  v_BadPattern := xv_ok (xc_ok (own := true) (T := "ValueError") X G (fact z 33) (fun h => by cases h) (by decide) (by decide) (by decide) (by decide) (by decide) (def_ z 17 (d := d_BadPattern_init)) rfl (fun _ => ⟨_, rfl⟩) (fun _ _ _ _ _ _ _ us its hu hi => match us, its, hu, hi with | [_, _], [_], _, _ => ⟨_, rfl, rfl⟩)) (fact z 35) (def_ z 17 (d := d_BadPattern_init)) (fun _ => ⟨_, rfl⟩) (fun _ _ _ _ _ _ _ _ _ its hi => match its, hi with | [_], _ => ⟨_, rfl, rfl⟩) (fun _ _ _ _ _ _ _ _ _ its hi => match its, hi with | [_], _ => ⟨_, rfl, rfl⟩) (fun _ _ _ _ _ _ _ _ _ => ⟨_, rfl, rfl⟩)
  x_BadCartan := xc_ok (own := true) (T := "ValueError") X G (fact z 36) (fun h => by cases h) (by decide) (by decide) (by decide) (by decide) (by decide) (def_ z 18 (d := d_BadCartan_init)) rfl (fun _ => ⟨_, rfl⟩) (fun _ _ _ _ _ _ _ us its hu hi => match us, its, hu, hi with | [_, _], [_], _, _ => ⟨_, rfl, rfl⟩)
  m_BadCartan := He.glo_ok X G (fact z 37)
  v_BadCartan := xv_ok (xc_ok (own := true) (T := "ValueError") X G (fact z 36) (fun h => by cases h) (by decide) (by decide) (by decide) (by decide) (by decide) (def_ z 18 (d := d_BadCartan_init)) rfl (fun _ => ⟨_, rfl⟩) (fun _ _ _ _ _ _ _ us its hu hi => match us, its, hu, hi with | [_, _], [_], _, _ => ⟨_, rfl, rfl⟩)) (fact z 38) (def_ z 18 (d := d_BadCartan_init)) (fun _ => ⟨_, rfl⟩) (fun _ _ _ _ _ _ _ _ _ its hi => match its, hi with | [_], _ => ⟨_, rfl, rfl⟩) (fun _ _ _ _ _ _ _ _ _ its hi => match its, hi with | [_], _ => ⟨_, rfl, rfl⟩) (fun _ _ _ _ _ _ _ _ _ => ⟨_, rfl, rfl⟩)
  x_BadRoot := xc_ok (own := true) (T := "ValueError") X G (fact z 39) (fun h => by cases h) (by decide) (by decide) (by decide) (by decide) (by decide) (def_ z 19 (d := d_BadRoot_init)) rfl (fun _ => ⟨_, rfl⟩) (fun _ _ _ _ _ _ _ us its hu hi => match us, its, hu, hi with | [_, _], [_], _, _ => ⟨_, rfl, rfl⟩)
  m_BadRoot := He.glo_ok X G (fact z 40)
  v_BadRoot := xv_ok (xc_ok (own := true) (T := "ValueError") X G (fact z 39) (fun h => by cases h) (by decide) (by decide) (by decide) (by decide) (by decide) (def_ z 19 (d := d_BadRoot_init)) rfl (fun _ => ⟨_, rfl⟩) (fun _ _ _ _ _ _ _ us its hu hi => match us, its, hu, hi with | [_, _], [_], _, _ => ⟨_, rfl, rfl⟩)) (fact z 41) (def_ z 19 (d := d_BadRoot_init)) (fun _ => ⟨_, rfl⟩) (fun _ _ _ _ _ _ _ _ _ its hi => match its, hi with | [_], _ => ⟨_, rfl, rfl⟩) (fun _ _ _ _ _ _ _ _ _ its hi => match its, hi with | [_], _ => ⟨_, rfl, rfl⟩) (fun _ _ _ _ _ _ _ _ _ => ⟨_, rfl, rfl⟩)
  x_BadTriple := xc_ok (own := true) (T := "ValueError") X G (fact z 42) (fun h => by cases h) (by decide) (by decide) (by decide) (by decide) (by decide) (def_ z 20 (d := d_BadTriple_init)) rfl (fun _ => ⟨_, rfl⟩) (fun _ _ _ _ _ _ _ us its hu hi => match us, its, hu, hi with | [_, _], [_], _, _ => ⟨_, rfl, rfl⟩)
  m_BadTriple := He.glo_ok X G (fact z 43)
  v_BadTriple := xv_ok (xc_ok (own := true) (T := "ValueError") X G (fact z 42) (fun h => by cases h) (by decide) (by decide) (by decide) (by decide) (by decide) (def_ z 20 (d := d_BadTriple_init)) rfl (fun _ => ⟨_, rfl⟩) (fun _ _ _ _ _ _ _ us its hu hi => match us, its, hu, hi with | [_, _], [_], _, _ => ⟨_, rfl, rfl⟩)) (fact z 44) (def_ z 20 (d := d_BadTriple_init)) (fun _ => ⟨_, rfl⟩) (fun _ _ _ _ _ _ _ _ _ its hi => match its, hi with | [_], _ => ⟨_, rfl, rfl⟩) (fun _ _ _ _ _ _ _ _ _ its hi => match its, hi with | [_], _ => ⟨_, rfl, rfl⟩) (fun _ _ _ _ _ _ _ _ _ => ⟨_, rfl, rfl⟩)
  x_BadMap := xc_ok (own := true) (T := "ValueError") X G (fact z 45) (fun h => by cases h) (by decide) (by decide) (by decide) (by decide) (by decide) (def_ z 21 (d := d_BadMap_init)) rfl (fun _ => ⟨_, rfl⟩) (fun _ _ _ _ _ _ _ us its hu hi => match us, its, hu, hi with | [_, _], [_], _, _ => ⟨_, rfl, rfl⟩)
  m_BadMap := He.glo_ok X G (fact z 46)
  v_BadMap := xv_ok (xc_ok (own := true) (T := "ValueError") X G (fact z 45) (fun h => by cases h) (by decide) (by decide) (by decide) (by decide) (by decide) (def_ z 21 (d := d_BadMap_init)) rfl (fun _ => ⟨_, rfl⟩) (fun _ _ _ _ _ _ _ us its hu hi => match us, its, hu, hi with | [_, _], [_], _, _ => ⟨_, rfl, rfl⟩)) (fact z 47) (def_ z 21 (d := d_BadMap_init)) (fun _ => ⟨_, rfl⟩) (fun _ _ _ _ _ _ _ _ _ its hi => match its, hi with | [_], _ => ⟨_, rfl, rfl⟩) (fun _ _ _ _ _ _ _ _ _ its hi => match its, hi with | [_], _ => ⟨_, rfl, rfl⟩) (fun _ _ _ _ _ _ _ _ _ => ⟨_, rfl, rfl⟩)
  x_BadText := xc_ok (own := true) (T := "ValueError") X G (fact z 48) (fun h => by cases h) (by decide) (by decide) (by decide) (by decide) (by decide) (def_ z 22 (d := d_BadText_init)) rfl (fun _ => ⟨_, rfl⟩) (fun _ _ _ _ _ _ _ us its hu hi => match us, its, hu, hi with | [_, _], [_], _, _ => ⟨_, rfl, rfl⟩)
  m_BadText := He.glo_ok X G (fact z 49)
  v_BadText := xv_ok (xc_ok (own := true) (T := "ValueError") X G (fact z 48) (fun h => by cases h) (by decide) (by decide) (by decide) (by decide) (by decide) (def_ z 22 (d := d_BadText_init)) rfl (fun _ => ⟨_, rfl⟩) (fun _ _ _ _ _ _ _ us its hu hi => match us, its, hu, hi with | [_, _], [_], _, _ => ⟨_, rfl, rfl⟩)) (fact z 50) (def_ z 22 (d := d_BadText_init)) (fun _ => ⟨_, rfl⟩) (fun _ _ _ _ _ _ _ _ _ its hi => match its, hi with | [_], _ => ⟨_, rfl, rfl⟩) (fun _ _ _ _ _ _ _ _ _ its hi => match its, hi with | [_], _ => ⟨_, rfl, rfl⟩) (fun _ _ _ _ _ _ _ _ _ => ⟨_, rfl, rfl⟩)
  x_BadPaper := xc_ok (own := true) (T := "ValueError") X G (fact z 51) (fun h => by cases h) (by decide) (by decide) (by decide) (by decide) (by decide) (def_ z 23 (d := d_BadPaper_init)) rfl (fun _ => ⟨_, rfl⟩) (fun _ _ _ _ _ _ _ us its hu hi => match us, its, hu, hi with | [_, _], [_], _, _ => ⟨_, rfl, rfl⟩)
  m_BadPaper := He.glo_ok X G (fact z 52)
  v_BadPaper := xv_ok (xc_ok (own := true) (T := "ValueError") X G (fact z 51) (fun h => by cases h) (by decide) (by decide) (by decide) (by decide) (by decide) (def_ z 23 (d := d_BadPaper_init)) rfl (fun _ => ⟨_, rfl⟩) (fun _ _ _ _ _ _ _ us its hu hi => match us, its, hu, hi with | [_, _], [_], _, _ => ⟨_, rfl, rfl⟩)) (fact z 53) (def_ z 23 (d := d_BadPaper_init)) (fun _ => ⟨_, rfl⟩) (fun _ _ _ _ _ _ _ _ _ its hi => match its, hi with | [_], _ => ⟨_, rfl, rfl⟩) (fun _ _ _ _ _ _ _ _ _ its hi => match its, hi with | [_], _ => ⟨_, rfl, rfl⟩) (fun _ _ _ _ _ _ _ _ _ => ⟨_, rfl, rfl⟩)
  x_BadDeed := xc_ok (own := true) (T := "ValueError") X G (fact z 54) (fun h => by cases h) (by decide) (by decide) (by decide) (by decide) (by decide) (def_ z 24 (d := d_BadDeed_init)) rfl (fun _ => ⟨_, rfl⟩) (fun _ _ _ _ _ _ _ us its hu hi => match us, its, hu, hi with | [_, _], [_], _, _ => ⟨_, rfl, rfl⟩)
  m_BadDeed := He.glo_ok X G (fact z 55)
  v_BadDeed := xv_ok (xc_ok (own := true) (T := "ValueError") X G (fact z 54) (fun h => by cases h) (by decide) (by decide) (by decide) (by decide) (by decide) (def_ z 24 (d := d_BadDeed_init)) rfl (fun _ => ⟨_, rfl⟩) (fun _ _ _ _ _ _ _ us its hu hi => match us, its, hu, hi with | [_, _], [_], _, _ => ⟨_, rfl, rfl⟩)) (fact z 56) (def_ z 24 (d := d_BadDeed_init)) (fun _ => ⟨_, rfl⟩) (fun _ _ _ _ _ _ _ _ _ its hi => match its, hi with | [_], _ => ⟨_, rfl, rfl⟩) (fun _ _ _ _ _ _ _ _ _ its hi => match its, hi with | [_], _ => ⟨_, rfl, rfl⟩) (fun _ _ _ _ _ _ _ _ _ => ⟨_, rfl, rfl⟩)
  x_TooMany := xc_ok0 (own := false) (T := "OverflowError") X G (fact z 57) (fun _ => ⟨PyProof.Rows.Boot.«OverflowError», by decide, by first | rfl | kernel_rfl, by decide +kernel⟩) (by decide) (by decide) (by decide) (by decide) (by decide) (def_ z 25 (d := d_TooMany_init)) (fun _ => ⟨_, rfl⟩) (fun _ _ _ _ _ _ us hu => match us, hu with | [_, _], _ => rfl)
  m_TooMany := He.glo_ok X G (fact z 58)
  v_TooMany := xv_ok0 (xc_ok0 (own := false) (T := "OverflowError") X G (fact z 57) (fun _ => ⟨PyProof.Rows.Boot.«OverflowError», by decide, by first | rfl | kernel_rfl, by decide +kernel⟩) (by decide) (by decide) (by decide) (by decide) (by decide) (def_ z 25 (d := d_TooMany_init)) (fun _ => ⟨_, rfl⟩) (fun _ _ _ _ _ _ us hu => match us, hu with | [_, _], _ => rfl)) (fact z 59) (def_ z 25 (d := d_TooMany_init)) (fun _ => ⟨_, rfl⟩) (fun _ _ _ _ _ _ _ _ => rfl) (fun _ _ _ _ _ _ _ _ => rfl)
  x_NoSuch := xc_ok (own := false) (T := "LookupError") X G (fact z 60) (fun _ => ⟨PyProof.Rows.Boot.«LookupError», by decide, by first | rfl | kernel_rfl, by decide +kernel⟩) (by decide) (by decide) (by decide) (by decide) (by decide) (def_ z 26 (d := d_NoSuch_init)) rfl (fun _ => ⟨_, rfl⟩) (fun _ _ _ _ _ _ _ us its hu hi => match us, its, hu, hi with | [_, _], [_], _, _ => ⟨_, rfl, rfl⟩)
  m_NoSuch := He.glo_ok X G (fact z 61)
  v_NoSuch := xv_ok (xc_ok (own := false) (T := "LookupError") X G (fact z 60) (fun _ => ⟨PyProof.Rows.Boot.«LookupError», by decide, by first | rfl | kernel_rfl, by decide +kernel⟩) (by decide) (by decide) (by decide) (by decide) (by decide) (def_ z 26 (d := d_NoSuch_init)) rfl (fun _ => ⟨_, rfl⟩) (fun _ _ _ _ _ _ _ us its hu hi => match us, its, hu, hi with | [_, _], [_], _, _ => ⟨_, rfl, rfl⟩)) (fact z 62) (def_ z 26 (d := d_NoSuch_init)) (fun _ => ⟨_, rfl⟩) (fun _ _ _ _ _ _ _ _ _ its hi => match its, hi with | [_], _ => ⟨_, rfl, rfl⟩) (fun _ _ _ _ _ _ _ _ _ its hi => match its, hi with | [_], _ => ⟨_, rfl, rfl⟩) (fun _ _ _ _ _ _ _ _ _ => ⟨_, rfl, rfl⟩)
  m__law_valued := He.glo_ok X G (fact z 63)
  gs_ := gs_ok (fact z 64)
  is_ := is_ok X G (fact z 65)
  f_isinstance := He.free_ok X G (fact z 66)
  f_ValueError := He.free_ok X G (fact z 67)
  m_WholeError := He.glo_ok X G (fact z 68)
  f_OverflowError := He.free_ok X G (fact z 69)
  f_LookupError := He.free_ok X G (fact z 70)
  m__law_kinds := He.glo_ok X G (fact z 71)
  no_value := no_ok X G (fact z 72)
  m__law_placed := He.glo_ok X G (fact z 73)
  no_place := no_ok X G (fact z 74)
  no_most := no_ok X G (fact z 75)
  m__law_right := He.glo_ok X G (fact z 76)
  f_str := He.free_ok X G (fact z 77)
  m_law := He.glo_ok X G (fact z 78)
  F__law_draw := def_ z 0
  F__law_mixed := def_ z 1
  F__law_digit := def_ z 2
  F__law_valued := def_ z 3
  F__law_kinds := def_ z 4
  F__law_placed := def_ z 5
  F__law_right := def_ z 6
  F_law := def_ z 7
end Lw

set_option Elab.async false
set_option linter.all false
set_option maxRecDepth 100000
set_option maxHeartbeats 1000000
namespace Lw
open PySem PySem.Spec PyProof.Rows L2 Mi
abbrev kL : Key := .inr "left"
abbrev kC : Key := .inr "cell"
abbrev kT : Key := .inr "turns"
def stD (l c t : Int) : Ob := .dic [(kL, .int l), (kC, .int c), (kT, .int t)]
theorem mixed_ok (cell k : Int) (h0 : 0 ≤ k) (h1 : k ≤ 100000) (h : Hd) : ∃ m g, s__law_mixed [.int cell, .int k] h = .ok (.int m) (h ++ g) ∧ 0 ≤ m ∧ m < 2147483647 := by
  have hr : Int.fmod k 4 = 0 ∨ Int.fmod k 4 = 1 ∨ Int.fmod k 4 = 2 ∨ Int.fmod k 4 = 3 := by
    rw [Int.fmod_eq_emod_of_nonneg _ (by decide)]
    omega
  obtain ⟨M, hM, hM0, hM1⟩ : ∃ M : Int, atI [D.int 1000000007, .int 998244353, .int 2147483629, .int 1000000009] (Int.fmod k 4) = some (.int M) ∧ 0 < M ∧ M < 2147483630 := by
    rcases hr with e | e | e | e <;> rw [e]
    · exact ⟨1000000007, rfl, by decide, by decide⟩
    · exact ⟨998244353, rfl, by decide, by decide⟩
    · exact ⟨2147483629, rfl, by decide, by decide⟩
    · exact ⟨1000000009, rfl, by decide, by decide⟩
  have hMn : M ≠ 0 := by omega
  have hc0 : 0 ≤ Int.fmod cell M := Int.fmod_nonneg_of_pos _ hM0
  have hc1 : Int.fmod cell M < M := Int.fmod_lt_of_pos _ hM0
  have m1 : mulOk 7919 k = true := by
    unfold mulOk
    rw [Bool.or_eq_true, Bool.or_eq_true, decide_eq_true_eq]
    left; left; decide
  generalize hv : Int.fmod cell M + 7919 * k + 13 = v at *
  have hv0 : 0 ≤ v := by omega
  have hv1 : v < 4294967296 := by omega
  have m2 : mulOk v v = true := by
    unfold mulOk
    rw [Bool.or_eq_true, Bool.or_eq_true, decide_eq_true_eq]
    left; left; omega
  have m3 : mulOk (Int.fmod (v * v) 2147483647) 48271 = true := by
    unfold mulOk
    rw [Bool.or_eq_true, Bool.or_eq_true, decide_eq_true_eq, decide_eq_true_eq]
    left; right; decide
  refine ⟨Int.fmod (Int.fmod (v * v) 2147483647 * 48271) 2147483647, [.lst [.int 1000000007, .int 998244353, .int 2147483629, .int 1000000009]], ?_, Int.fmod_nonneg_of_pos _ (by decide), Int.fmod_lt_of_pos _ (by decide)⟩
  have b0 : b__law_mixed_0 [some (.int cell), some (.int k), none] h = .nx [some (.int cell), some (.int k), some (.int v)] (h ++ [.lst [.int 1000000007, .int 998244353, .int 2147483629, .int 1000000009]]) := by
    simp [b__law_mixed_0, gMod, gMul, hM, hMn, m1, hv]
  have b1 : b__law_mixed_1 [some (.int cell), some (.int k), some (.int v)] (h ++ [.lst [.int 1000000007, .int 998244353, .int 2147483629, .int 1000000009]]) = .rt (.int (Int.fmod (Int.fmod (v * v) 2147483647 * 48271) 2147483647)) (h ++ [.lst [.int 1000000007, .int 998244353, .int 2147483629, .int 1000000009]]) := by
    generalize (h ++ [Ob.lst [D.int 1000000007, .int 998244353, .int 2147483629, .int 1000000009]]) = h'
    simp [b__law_mixed_1, gMod, gMul, m2, m3]
  exact run_rt [some (.int cell), some (.int k), none] ((seq_nx b0).trans b1)
/-- the state at s: what is left is not negative, at most n turns were made -/
def St (s : Nat) (n : Int) (h : Hd) : Prop := ∃ l c t, h[s]? = some (stD l c t) ∧ 0 ≤ l ∧ 0 ≤ t ∧ t ≤ n
theorem St.keep {s : Nat} {n : Int} {h h' : Hd} (a : St s n h) (k : Kp [] h h') : St s n h' := by
  obtain ⟨l, c, t, e, r⟩ := a
  exact ⟨l, c, t, k.at_ _ _ (by simp) e, r⟩
theorem St.lt {s : Nat} {n : Int} {h : Hd} (a : St s n h) : s < h.length := by
  obtain ⟨l, c, t, e, r⟩ := a
  exact (List.getElem?_eq_some_iff.mp e).1
theorem put_T (l c t x : D) : putD [(kL, l), (kC, c), (kT, t)] kT x = [(kL, l), (kC, c), (kT, x)] := rfl
theorem put_L (l c t x : D) : putD [(kL, l), (kC, c), (kT, t)] kL x = [(kL, x), (kC, c), (kT, t)] := rfl
theorem val_L (l c t : D) : valD [(kL, l), (kC, c), (kT, t)] kL = some l := rfl
theorem val_C (l c t : D) : valD [(kL, l), (kC, c), (kT, t)] kC = some c := rfl
theorem val_T (l c t : D) : valD [(kL, l), (kC, c), (kT, t)] kT = some t := rfl
theorem ix_L {h : Hd} {s : Nat} {l c t : Int} (e : h[s]? = some (stD l c t)) : gIx (.ref s) (.str "left") h = .ok (.int l) h := by
  unfold gIx; dsimp only; rw [e]; rfl
theorem ix_C {h : Hd} {s : Nat} {l c t : Int} (e : h[s]? = some (stD l c t)) : gIx (.ref s) (.str "cell") h = .ok (.int c) h := by
  unfold gIx; dsimp only; rw [e]; rfl
theorem ix_T {h : Hd} {s : Nat} {l c t : Int} (e : h[s]? = some (stD l c t)) : gIx (.ref s) (.str "turns") h = .ok (.int t) h := by
  unfold gIx; dsimp only; rw [e]; rfl
theorem set_L {h : Hd} {s : Nat} {l c t x : Int} (e : h[s]? = some (stD l c t)) : setAt (.ref s) (.str "left") (.int x) h = some (h.set s (stD x c t)) := by
  unfold setAt; dsimp only; rw [e]; rfl
theorem set_T {h : Hd} {s : Nat} {l c t x : Int} (e : h[s]? = some (stD l c t)) : setAt (.ref s) (.str "turns") (.int x) h = some (h.set s (stD l c x)) := by
  unfold setAt; dsimp only; rw [e]; rfl
theorem store_ok {fe fo fi : Fe} {env : En} {h h1 h2 h3 h4 : Hd} {v o i : D} (e1 : fe env h = .ok v h1) (e2 : fo env h1 = .ok o h2) (e3 : fi env h2 = .ok i h3) (e4 : setAt o i v h3 = some h4) : sStore fe fo fi env h = .nx env h4 := by
  unfold sStore
  show (match fe env h with
    | .ok v h1 => sOf fo (fun o => sOf fi fun i env h => match setAt o i v h with
      | some h1 => .nx env h1
      | none => .no) env h1
    | .ex e h1 => SRes.ex e env h1
    | .no => .no) = _
  rw [e1]
  show (match fo env h1 with
    | .ok o h1 => sOf fi (fun i env h => match setAt o i v h with
      | some h1 => .nx env h1
      | none => .no) env h1
    | .ex e h1 => SRes.ex e env h1
    | .no => .no) = _
  rw [e2]
  show (match fi env h2 with
    | .ok i h1 => (match setAt o i v h1 with
      | some h1 => SRes.nx env h1
      | none => .no)
    | .ex e h1 => SRes.ex e env h1
    | .no => .no) = _
  rw [e3]
  dsimp only
  rw [e4]
theorem digit_ok (s : Nat) (n below : Int) (hb : 1 ≤ below) (hb2 : below < 1000000) (hn : n ≤ 90000) (h : Hd) (st : St s n h) : ∃ d h', s__law_digit [.ref s, .int below] h = .ok (.int d) h' ∧ 0 ≤ d ∧ d < below ∧ St s (n + 4) h' ∧ Kp [s] h h' := by
  obtain ⟨l, c, t, e, hl, ht, htn⟩ := st
  -- what stands behind the filling up
  have fill : ∃ v h1 l1 t1, b__law_digit_0 [some (.ref s), some (.int below), none, none] h = .nx [some (.ref s), some (.int below), v, none] h1 ∧ h1[s]? = some (stD l1 c t1) ∧ 0 ≤ l1 ∧ 0 ≤ t1 ∧ t1 ≤ n + 4 ∧ Kp [s] h h1 := by
    have tst : tOf (eOp gEq (eOp gIx (eVar 0) (eC (.str "left"))) (eC (.int 0))) [some (.ref s), some (.int below), none, none] h = .ok (decide (l = 0)) h := by
      refine tOf_ok ((op_ok ((op_ok (x := .ref s) (y := .str "left") rfl rfl).trans (ix_L e)) rfl).trans ?_)
      rfl
    by_cases h0 : l = 0
    · have key := for_inv (src := rngS 0 4 1) (tg := gSet 2) (body := sSeq (sStore (eOp gAdd (eOp gIx (eVar 0) (eC (.str "turns"))) (eC (.int 1))) (eVar 0) (eC (.str "turns")))
        (sStore (eOp gAdd (eOp gMul (eOp gIx (eVar 0) (eC (.str "left"))) (eC (.int 2147483647))) (eCall s__law_mixed (aCons (eOp gIx (eVar 0) (eC (.str "cell"))) (aCons (eOp gIx (eVar 0) (eC (.str "turns"))) aNil)))) (eVar 0) (eC (.str "left"))))
        (env := [some (.ref s), some (.int below), none, none]) (h := h) 4 (fun i => .int (0 + (i : Nat) * 1)) (fun i env h1 => (∃ v, env = [some (.ref s), some (.int below), v, none]) ∧ (∃ l1 t1, h1[s]? = some (stD l1 c t1) ∧ 0 ≤ l1 ∧ 0 ≤ t1 ∧ t1 ≤ n + (i : Nat)) ∧ Kp [s] h h1)
        ⟨⟨none, rfl⟩, ⟨l, t, e, hl, ht, by omega⟩, Kp.refl⟩ ?_ ?_ (by rw [most_eq]; decide)
      · obtain ⟨env', h1, e1, ⟨v, rfl⟩, ⟨l1, t1, q1, q2, q3, q4⟩, kp⟩ := key
        refine ⟨v, h1, l1, t1, ?_, q1, q2, q3, q4, kp⟩
        unfold b__law_digit_0
        rw [if_ok tst, decide_eq_true h0, if_pos rfl, sFor_ok (rng1_ok (j := 4) (h1 := h) rfl (rng_small (by decide) (by decide)))]
        exact e1
      · rintro i env h1 hi ⟨⟨v, rfl⟩, ⟨l1, t1, q1, q2, q3, q4⟩, kp⟩
        have hs1 : s < h1.length := (List.getElem?_eq_some_iff.mp q1).1
        have q5 : (h1.set s (stD l1 c (t1 + 1)))[s]? = some (stD l1 c (t1 + 1)) := List.getElem?_set_self hs1
        obtain ⟨m, g, em, m0, m1⟩ := mixed_ok c (t1 + 1) (by omega) (by omega) (h1.set s (stD l1 c (t1 + 1)))
        have q6 : (h1.set s (stD l1 c (t1 + 1)) ++ g)[s]? = some (stD l1 c (t1 + 1)) := app_old q5
        have hs2 : s < (h1.set s (stD l1 c (t1 + 1)) ++ g).length := (List.getElem?_eq_some_iff.mp q6).1
        have mo : mulOk l1 2147483647 = true := by
          unfold mulOk
          rw [Bool.or_eq_true, Bool.or_eq_true, decide_eq_true_eq, decide_eq_true_eq]
          left; right; decide
        refine ⟨rng_item hi, [some (.ref s), some (.int below), some (.int (0 + (i : Nat) * 1)), none], (h1.set s (stD l1 c (t1 + 1)) ++ g).set s (stD (l1 * 2147483647 + m) c (t1 + 1)), ?_, ⟨_, rfl⟩, ⟨l1 * 2147483647 + m, t1 + 1, List.getElem?_set_self hs2, by omega, by omega, by omega⟩, ?_⟩
        · have w1 : sStore (eOp gAdd (eOp gIx (eVar 0) (eC (.str "turns"))) (eC (.int 1))) (eVar 0) (eC (.str "turns")) [some (.ref s), some (.int below), some (.int (0 + (i : Nat) * 1)), none] h1 = .nx [some (.ref s), some (.int below), some (.int (0 + (i : Nat) * 1)), none] (h1.set s (stD l1 c (t1 + 1))) :=
            Lw.store_ok ((op_ok ((op_ok (x := .ref s) (y := .str "turns") rfl rfl).trans (ix_T q1)) rfl).trans rfl) rfl rfl (set_T q1)
          have w2 : sStore (eOp gAdd (eOp gMul (eOp gIx (eVar 0) (eC (.str "left"))) (eC (.int 2147483647))) (eCall s__law_mixed (aCons (eOp gIx (eVar 0) (eC (.str "cell"))) (aCons (eOp gIx (eVar 0) (eC (.str "turns"))) aNil)))) (eVar 0) (eC (.str "left")) [some (.ref s), some (.int below), some (.int (0 + (i : Nat) * 1)), none] (h1.set s (stD l1 c (t1 + 1))) = .nx [some (.ref s), some (.int below), some (.int (0 + (i : Nat) * 1)), none] ((h1.set s (stD l1 c (t1 + 1)) ++ g).set s (stD (l1 * 2147483647 + m) c (t1 + 1))) := by
            refine Lw.store_ok (h1 := h1.set s (stD l1 c (t1 + 1)) ++ g) (v := .int (l1 * 2147483647 + m)) ?_ rfl rfl (set_L q6)
            have p1 : eOp gMul (eOp gIx (eVar 0) (eC (.str "left"))) (eC (.int 2147483647)) [some (.ref s), some (.int below), some (.int (0 + (i : Nat) * 1)), none] (h1.set s (stD l1 c (t1 + 1))) = .ok (.int (l1 * 2147483647)) (h1.set s (stD l1 c (t1 + 1))) := by
              refine (op_ok ((op_ok (x := .ref s) (y := .str "left") rfl rfl).trans (ix_L q5)) rfl).trans ?_
              unfold gMul
              dsimp only
              rw [if_pos mo]
            have p2 : eCall s__law_mixed (aCons (eOp gIx (eVar 0) (eC (.str "cell"))) (aCons (eOp gIx (eVar 0) (eC (.str "turns"))) aNil)) [some (.ref s), some (.int below), some (.int (0 + (i : Nat) * 1)), none] (h1.set s (stD l1 c (t1 + 1))) = .ok (.int m) (h1.set s (stD l1 c (t1 + 1)) ++ g) :=
              (call_ok (cons_ok ((op_ok (x := .ref s) (y := .str "cell") rfl rfl).trans (ix_C q5)) (cons_ok ((op_ok (x := .ref s) (y := .str "turns") rfl rfl).trans (ix_T q5)) rfl))).trans em
            exact (op_ok p1 p2).trans rfl
          show (match sSeq _ _ [some (.ref s), some (.int below), some (.int (0 + (i : Nat) * 1)), none] h1 with
            | .ct env2 h2 => SRes.nx env2 h2
            | r => r) = _
          rw [seq_nx w1, w2]
        · exact ((kp.trans (Kp.set (by simp))).trans Kp.app).trans (Kp.set (by simp))
      · rintro env h1 _
        exact rng_stop
    · refine ⟨none, h, l, t, ?_, e, hl, ht, by omega, Kp.refl⟩
      unfold b__law_digit_0
      rw [if_ok tst, decide_eq_false h0, if_neg (by decide)]
      rfl
  obtain ⟨v, h1, l1, t1, f1, q1, q2, q3, q4, kp⟩ := fill
  have hs1 : s < h1.length := (List.getElem?_eq_some_iff.mp q1).1
  have hbn : below ≠ 0 := by omega
  have d0 : 0 ≤ Int.fmod l1 below := Int.fmod_nonneg_of_pos _ (by omega)
  have d1 : Int.fmod l1 below < below := Int.fmod_lt_of_pos _ (by omega)
  have d2 : 0 ≤ Int.fdiv l1 below := Int.fdiv_nonneg q2 (by omega)
  refine ⟨Int.fmod l1 below, h1.set s (stD (Int.fdiv l1 below) c t1), ?_, d0, d1, ⟨_, c, t1, List.getElem?_set_self hs1, d2, q3, q4⟩, kp.trans (Kp.set (by simp))⟩
  have b1 : b__law_digit_1 [some (.ref s), some (.int below), v, none] h1 = .nx [some (.ref s), some (.int below), v, some (.int (Int.fmod l1 below))] h1 := by
    unfold b__law_digit_1
    refine asg_ok (i := 3) ((op_ok ((op_ok (x := .ref s) (y := .str "left") rfl rfl).trans (ix_L q1)) rfl).trans ?_) (by simp)
    unfold gMod
    dsimp only
    rw [if_pos (decide_eq_true hbn)]
  have b2 : b__law_digit_2 [some (.ref s), some (.int below), v, some (.int (Int.fmod l1 below))] h1 = .nx [some (.ref s), some (.int below), v, some (.int (Int.fmod l1 below))] (h1.set s (stD (Int.fdiv l1 below) c t1)) := by
    unfold b__law_digit_2
    refine Lw.store_ok (h1 := h1) (v := .int (Int.fdiv l1 below)) ((op_ok ((op_ok (x := .ref s) (y := .str "left") rfl rfl).trans (ix_L q1)) rfl).trans ?_) rfl rfl (set_L q1)
    unfold gFdv
    dsimp only
    have hb3 : below.natAbs < 1073741824 := by omega
    rw [if_pos (by rw [decide_eq_true hbn, decide_eq_true hb3]; rfl)]
  exact run_rt [some (.ref s), some (.int below), none, none] ((seq_nx f1).trans ((seq_nx b1).trans ((seq_nx b2).trans (ret_ok rfl))))
theorem pairs_cons {k v : Fe} {r : List (Fe × Fe)} {env : En} {h h1 h2 h3 : Hd} {x y : D} {ky : Key} {ps : List (Key × D)} (e1 : k env h = .ok x h1) (e2 : v env h1 = .ok y h2) (e3 : pairsD r env h2 = .ok ps h3) (e4 : keyD x = some ky) : pairsD ((k, v) :: r) env h = .ok ((ky, y) :: ps) h3 := by
  unfold pairsD
  rw [e1]
  show (v env h1).bind (fun y h2 => (pairsD r env h2).bind fun ps h3 => match keyD x with
    | some ky => Res.ok ((ky, y) :: ps) h3
    | none => .no) = _
  rw [e2]
  show (pairsD r env h2).bind (fun ps h3 => match keyD x with
    | some ky => Res.ok ((ky, y) :: ps) h3
    | none => .no) = _
  rw [e3]
  show (match keyD x with
    | some ky => Res.ok ((ky, y) :: ps) h3
    | none => .no) = _
  rw [e4]
theorem draw_ok (cell : Int) (k : Nat) (hk : k ≤ 9) (h : Hd) : ∃ h', s__law_draw [.int cell, .int (k : Nat)] h = .ok (.ref h.length) h' ∧ St h.length 9000 h' ∧ Kp [] h h' := by
  have m1 : mulOk 1000 (k : Int) = true := by
    unfold mulOk
    rw [Bool.or_eq_true, Bool.or_eq_true, decide_eq_true_eq]
    left; left; decide
  have p1 : eOp gPow (eC (.int 10)) (eC (.int 18)) [some (.int cell), some (.int (k : Nat))] (h ++ [.dic []]) = .ok (.int 1000000000000000000) (h ++ [.dic []]) := by
    refine (op_ok rfl rfl).trans ?_
    rfl
  have l1 : ∃ l, 0 ≤ l ∧ eIf (tOf (eOp gGe (eVar 0) (eOp gPow (eC (.int 10)) (eC (.int 18))))) (eVar 0) (eC (.int 0)) [some (.int cell), some (.int (k : Nat))] (h ++ [.dic []]) = .ok (.int l) (h ++ [.dic []]) := by
    have t : tOf (eOp gGe (eVar 0) (eOp gPow (eC (.int 10)) (eC (.int 18)))) [some (.int cell), some (.int (k : Nat))] (h ++ [.dic []]) = .ok (decide (1000000000000000000 ≤ cell)) (h ++ [.dic []]) := tOf_ok ((op_ok rfl p1).trans rfl)
    by_cases hc : (1000000000000000000 : Int) ≤ cell
    · refine ⟨cell, by omega, ?_⟩
      show (tOf _ _ (h ++ [.dic []])).bind _ = _
      rw [t, decide_eq_true hc]
      rfl
    · refine ⟨0, by decide, ?_⟩
      show (tOf _ _ (h ++ [.dic []])).bind _ = _
      rw [t, decide_eq_false hc]
      rfl
  obtain ⟨l, hl, l2⟩ := l1
  have t2 : eOp gMul (eC (.int 1000)) (eVar 1) [some (.int cell), some (.int (k : Nat))] (h ++ [.dic []]) = .ok (.int (1000 * (k : Int))) (h ++ [.dic []]) := by
    refine (op_ok rfl rfl).trans ?_
    unfold gMul
    dsimp only
    rw [if_pos m1]
  refine ⟨h ++ [stD l cell (1000 * (k : Int))], ?_, ⟨l, cell, 1000 * (k : Int), by rw [app_at0]; rfl, hl, by omega, by omega⟩, Kp.app⟩
  have b0 : b__law_draw_0 [some (.int cell), some (.int (k : Nat))] h = .rt (.ref h.length) (h ++ [stD l cell (1000 * (k : Int))]) := by
    unfold b__law_draw_0
    refine ret_ok ?_
    unfold eDict
    have pr : pairsD [(eC (.str "left"), eIf (tOf (eOp gGe (eVar 0) (eOp gPow (eC (.int 10)) (eC (.int 18))))) (eVar 0) (eC (.int 0))), (eC (.str "cell"), eVar 0), (eC (.str "turns"), eOp gMul (eC (.int 1000)) (eVar 1))] [some (.int cell), some (.int (k : Nat))] (h ++ [.dic []]) =
        .ok [(kL, .int l), (kC, .int cell), (kT, .int (1000 * (k : Int)))] (h ++ [.dic []]) := by
      exact pairs_cons rfl l2 (pairs_cons rfl rfl (pairs_cons rfl t2 rfl rfl) rfl) rfl
    rw [pr]
    show (if (emptyDic ((h ++ [Ob.dic []])[h.length]?) && decide (3 ≤ 15)) = true then Res.ok (D.ref h.length) ((h ++ [Ob.dic []]).set h.length (.dic (mergeD [] [(kL, .int l), (kC, .int cell), (kT, .int (1000 * (k : Int)))]))) else .no) = _
    rw [app_at0, app_set0]
    rfl
  exact run_rt [some (.int cell), some (.int (k : Nat))] b0
end Lw

set_option Elab.async false
set_option linter.all false
set_option maxRecDepth 100000
set_option maxHeartbeats 2000000
namespace Lw
open PySem PySem.Spec PyProof.Rows L2 Mi
/-! ### which kinds an error has -/
def isV (c : Str) (y : D) : Bool := (isOf vbs vts vtys c y).getD false
structure Kc (c : Str) : Prop where
  inV : vcs.contains c = true
  all : ∀ y ∈ (vts.map D.gl ++ vtys.map D.ty), isOf vbs vts vtys c y = some (isV c y)
theorem isx_ok {c f m : Str} {v y : D} (k : Kc c) (hy : y ∈ (vts.map D.gl ++ vtys.map D.ty)) {r : En} {h : Hd} : eCall (gIsX vcs (isOf vbs vts vtys)) (aCons (eVar 0) (aCons (eC y) aNil)) (some (.exv c f v m) :: r) h = .ok (.bl (isV c y)) h := by
  refine (call_ok (ds := [.exv c f v m, y]) rfl).trans ?_
  unfold gIsX
  dsimp only
  rw [if_pos k.inV, k.all y hy]
def pr (c : Str) (p : Str × D) : D := .tup [.str p.1, .bl (isV c p.2)]
theorem pair_ok {c f m : Str} {v : D} (k : Kc c) (p : Str × D) (hy : p.2 ∈ (vts.map D.gl ++ vtys.map D.ty)) {r : En} {h : Hd} :
    eTup (aCons (eC (.str p.1)) (aCons (eCall (gIsX vcs (isOf vbs vts vtys)) (aCons (eVar 0) (aCons (eC p.2) aNil))) aNil)) (some (.exv c f v m) :: r) h = .ok (pr c p) h :=
  tup_ok (cons_ok rfl (cons_ok (isx_ok k hy) rfl)) (by simp)
abbrev ePair (p : Str × D) : Fe := eTup (aCons (eC (.str p.1)) (aCons (eCall (gIsX vcs (isOf vbs vts vtys)) (aCons (eVar 0) (aCons (eC p.2) aNil))) aNil))
def aPairs : List (Str × D) → Fa
  | [] => aNil
  | p :: r => aCons (ePair p) (aPairs r)
theorem pairs_ok {c f m : Str} {v : D} (k : Kc c) {r : En} {h : Hd} : ∀ ps : List (Str × D), (∀ p ∈ ps, p.2 ∈ (vts.map D.gl ++ vtys.map D.ty)) → aPairs ps (some (.exv c f v m) :: r) h = .ok (ps.map (pr c)) h
  | [], _ => rfl
  | p :: ps, hp => cons_ok (pair_ok k p (hp p (List.mem_cons_self ..))) (pairs_ok k ps fun q hq => hp q (List.mem_cons_of_mem _ hq))
/-- a statement some = some + [pairs] -/
theorem more_ok {c f m : Str} {v : D} (k : Kc c) (ps : List (Str × D)) (hp : ∀ p ∈ ps, p.2 ∈ (vts.map D.gl ++ vtys.map D.ty)) {a : Nat} {L : List D} {h : Hd} {x y : Option D} (ha : h[a]? = some (.lst L)) (hl : L.length + ps.length ≤ 1000) :
    ∃ a' h', sAsg (eOp gAdd (eVar 1) (eLst (aPairs ps))) (gSet 1) [some (.exv c f v m), some (.ref a), x, y] h = .nx [some (.exv c f v m), some (.ref a'), x, y] h' ∧ Kp [] h h' ∧ h'[a']? = some (.lst (L ++ ps.map (pr c))) := by
  refine ⟨_, _, asg_ok (i := 1) ((op_ok (x := .ref a) rfl (lst_ok (pairs_ok k ps hp) (by rw [List.length_map]; omega))).trans (cat_lst (app_old ha) at_new (by rw [List.length_map]; exact hl))) (by simp), Kp.app.trans Kp.app, at_new⟩
/-- all that is asked -/
def T0 : List (Str × D) := [("BadCartan", .gl "BadCartan"), ("BadDeed", .gl "BadDeed")]
def T1 : List (Str × D) := [("BadFrieze", .gl "BadFrieze"), ("BadLaurent", .gl "BadLaurent")]
def T2 : List (Str × D) := [("BadMap", .gl "BadMap"), ("BadNumber", .gl "BadNumber")]
def T3 : List (Str × D) := [("BadPaper", .gl "BadPaper"), ("BadPattern", .gl "BadPattern")]
def T4 : List (Str × D) := [("BadPoint", .gl "BadPoint"), ("BadRoot", .gl "BadRoot")]
def T5 : List (Str × D) := [("BadRow", .gl "BadRow"), ("BadSeed", .gl "BadSeed")]
def T6 : List (Str × D) := [("BadSurface", .gl "BadSurface"), ("BadText", .gl "BadText")]
def T7 : List (Str × D) := [("BadTriple", .gl "BadTriple"), ("BadType", .gl "BadType")]
def T8 : List (Str × D) := [("BadWeb", .gl "BadWeb"), ("NoSuch", .gl "NoSuch")]
def T9 : List (Str × D) := [("TooMany", .gl "TooMany")]
def T10 : List (Str × D) := [("base", .gl "WholeError"), ("value", .ty "ValueError")]
def T11 : List (Str × D) := [("lookup", .ty "LookupError"), ("overflow", .ty "OverflowError")]
def TA : List (Str × D) := T0 ++ T1 ++ T2 ++ T3 ++ T4 ++ T5 ++ T6 ++ T7 ++ T8 ++ T9 ++ T10 ++ T11
theorem ins {l : List (Str × D)} (h : (l.all fun p => (match p.2 with
    | .gl x => vts.contains x
    | .ty x => vtys.contains x
    | _ => false)) = true) : ∀ p ∈ l, p.2 ∈ (vts.map D.gl ++ vtys.map D.ty) := fun p hp => by
  have q := List.all_eq_true.mp h p hp
  obtain ⟨w, d⟩ := p
  cases d with
  | gl x =>
    have q : vts.contains x = true := q
    exact List.mem_append_left _ (List.mem_map.mpr ⟨x, by simpa using q, rfl⟩)
  | ty x =>
    have q : vtys.contains x = true := q
    exact List.mem_append_right _ (List.mem_map.mpr ⟨x, by simpa using q, rfl⟩)
  | _ => cases q
def told (c : Str) (p : Str × D) : List D := if isV c p.2 = true then [.str p.1] else []
theorem kinds_ok {c f m : Str} {v : D} (k : Kc c) (h : Hd) : ∃ a h', s__law_kinds [.exv c f v m] h = .ok (.ref a) h' ∧ Kp [] h h' ∧ h'[a]? = some (.lst (TA.flatMap (told c))) := by
  let e : D := .exv c f v m
  have s0 : b__law_kinds_0 [some e, none, none, none] h = .nx [some e, some (.ref h.length), none, none] (h ++ [.lst (T0.map (pr c))]) :=
    asg_ok (i := 1) (lst_ok (pairs_ok k T0 (ins (by decide +kernel))) (by simp [T0])) (by simp)
  obtain ⟨a1, h1, s1, k1, q1⟩ := more_ok (f := f) (m := m) (v := v) (x := none) (y := none) k T1 (ins (by decide +kernel)) (at_new (h := h) (o := .lst (T0.map (pr c)))) (by simp [T0, T1])
  obtain ⟨a2, h2, s2, k2, q2⟩ := more_ok (f := f) (m := m) (v := v) (x := none) (y := none) k T2 (ins (by decide +kernel)) q1 (by simp [T0, T1, T2])
  obtain ⟨a3, h3, s3, k3, q3⟩ := more_ok (f := f) (m := m) (v := v) (x := none) (y := none) k T3 (ins (by decide +kernel)) q2 (by simp [T0, T1, T2, T3])
  obtain ⟨a4, h4, s4, k4, q4⟩ := more_ok (f := f) (m := m) (v := v) (x := none) (y := none) k T4 (ins (by decide +kernel)) q3 (by simp [T0, T1, T2, T3, T4])
  obtain ⟨a5, h5, s5, k5, q5⟩ := more_ok (f := f) (m := m) (v := v) (x := none) (y := none) k T5 (ins (by decide +kernel)) q4 (by simp [T0, T1, T2, T3, T4, T5])
  obtain ⟨a6, h6, s6, k6, q6⟩ := more_ok (f := f) (m := m) (v := v) (x := none) (y := none) k T6 (ins (by decide +kernel)) q5 (by simp [T0, T1, T2, T3, T4, T5, T6])
  obtain ⟨a7, h7, s7, k7, q7⟩ := more_ok (f := f) (m := m) (v := v) (x := none) (y := none) k T7 (ins (by decide +kernel)) q6 (by simp [T0, T1, T2, T3, T4, T5, T6, T7])
  obtain ⟨a8, h8, s8, k8, q8⟩ := more_ok (f := f) (m := m) (v := v) (x := none) (y := none) k T8 (ins (by decide +kernel)) q7 (by simp [T0, T1, T2, T3, T4, T5, T6, T7, T8])
  obtain ⟨a9, h9, s9, k9, q9⟩ := more_ok (f := f) (m := m) (v := v) (x := none) (y := none) k T9 (ins (by decide +kernel)) q8 (by simp [T0, T1, T2, T3, T4, T5, T6, T7, T8, T9])
  obtain ⟨a10, h10, s10, k10, q10⟩ := more_ok (f := f) (m := m) (v := v) (x := none) (y := none) k T10 (ins (by decide +kernel)) q9 (by simp [T0, T1, T2, T3, T4, T5, T6, T7, T8, T9, T10])
  obtain ⟨a11, h11, s11, k11, q11⟩ := more_ok (f := f) (m := m) (v := v) (x := none) (y := none) k T11 (ins (by decide +kernel)) q10 (by simp [T0, T1, T2, T3, T4, T5, T6, T7, T8, T9, T10, T11])
  have q : h11[a11]? = some (.lst (TA.map (pr c))) := by
    rw [q11]
    simp [TA, List.map_append]
  have kp : Kp [] h h11 := Kp.app.trans (k1.trans (k2.trans (k3.trans (k4.trans (k5.trans (k6.trans (k7.trans (k8.trans (k9.trans (k10.trans k11))))))))))
  obtain ⟨h', s12, k12, q12⟩ := lc_ref (tg := gUnp 2 (gsCons (gSet 2) (gsCons (gSet 3) gsNil))) (tst := tOf (eVar 3)) (el := eVar 2) (env := [some e, some (.ref a11), none, none]) (h := h11) (xs := TA.map (pr c))
    (fun d => match d with
      | .tup [x, .bl true] => [x]
      | _ => []) q (fun d hd h1 kp1 => by
      obtain ⟨p, hp, rfl⟩ := List.mem_map.mp hd
      refine ⟨h1, ?_, Kp.refl⟩
      unfold pr
      cases isV c p.2 <;> rfl) (by rw [List.length_map]; decide)
  refine ⟨h11.length, h', ?_, kp.trans k12, ?_⟩
  · refine run_rt [some e, none, none, none] ?_
    unfold b__law_kinds
    refine (seq_nx s0).trans ((seq_nx s1).trans ((seq_nx s2).trans ((seq_nx s3).trans ((seq_nx s4).trans ((seq_nx s5).trans ((seq_nx s6).trans ((seq_nx s7).trans ((seq_nx s8).trans ((seq_nx s9).trans ((seq_nx s10).trans ((seq_nx s11).trans ?_)))))))))))
    unfold b__law_kinds_12
    refine ret_ok ?_
    exact (eLc_ok (iOf_ref (a := a11) rfl q)).trans s12
  · rw [q12, List.flatMap_map]
    exact congrArg (fun g => some (Ob.lst (TA.flatMap g))) (funext fun p => by
      unfold pr told
      cases isV c p.2 <;> rfl)
end Lw

set_option Elab.async false
set_option linter.all false
set_option maxRecDepth 100000
set_option maxHeartbeats 2000000
namespace Lw
open PySem PySem.Spec PyProof.Rows L2 Mi
/-! ### the classes -/
theorem kc_of {c : Str} (h : (vcs.contains c && (vts.map D.gl ++ vtys.map D.ty).all fun y => (isOf vbs vts vtys c y).isSome) = true) : Kc c := by
  obtain ⟨h1, h2⟩ := He.ba h
  refine ⟨h1, fun y hy => ?_⟩
  have q := List.all_eq_true.mp h2 y hy
  unfold isV
  cases e : isOf vbs vts vtys c y with
  | none => rw [e] at q; cases q
  | some b => rfl
def toldS (c : Str) : List Str := TA.filterMap fun p => if isV c p.2 = true then some p.1 else none
theorem told_eq (c : Str) : TA.flatMap (told c) = (toldS c).map D.str := by
  unfold toldS told
  generalize TA = l
  induction l with
  | nil => rfl
  | cons p l ih =>
    rw [List.flatMap_cons, ih, List.filterMap_cons]
    by_cases q : isV c p.2 = true
    · rw [if_pos q, if_pos q]; rfl
    · rw [if_neg q, if_neg q]; rfl
def okC (c : Str) (ws : List Str) : Bool := (vcs.contains c && (vts.map D.gl ++ vtys.map D.ty).all fun y => (isOf vbs vts vtys c y).isSome) && decide (toldS c = ws)
/-- the kinds of an error of a class that is looked through -/
theorem kinds_of {c : Str} {ws : List Str} (q : okC c ws = true) (f m : Str) (v : D) (h : Hd) : ∃ a h', s__law_kinds [.exv c f v m] h = .ok (.ref a) h' ∧ Kp [] h h' ∧ h'[a]? = some (.lst (ws.map D.str)) := by
  obtain ⟨h1, h2⟩ := He.ba q
  obtain ⟨a, h', e, k, e2⟩ := kinds_ok (f := f) (m := m) (v := v) (kc_of h1) h
  refine ⟨a, h', e, k, ?_⟩
  rw [e2, told_eq, of_decide_eq_true h2]
/-! ### lists of errors -/
def row (v : D) (p : Str × Str × Str) : D := .tup [.exv p.1 p.2.1 v p.2.2, .exv p.1 p.2.1 v p.2.2, .str p.1]
theorem var_ok {i : Nat} {v : D} (nl : ∀ n, v ≠ .lam n) {env : En} (e : env[i]? = some (some v)) {h : Hd} : eVar i env h = .ok v h := by
  unfold eVar
  rw [e]
  cases v <;> first | rfl | exact absurd rfl (nl _)
abbrev eRow (p : Str × Str × Str) : Fe := eTup (aCons (eMk p.1 p.2.1 p.2.2 (eVar 0)) (aCons (eMk p.1 p.2.1 p.2.2 (eVar 0)) (aCons (eC (.str p.1)) aNil)))
theorem mk_ok {c f m : Str} {fe : Fe} {env : En} {h h1 : Hd} {v : D} (e : fe env h = .ok v h1) : eMk c f m fe env h = .ok (.exv c f v m) h1 := by
  show (fe env h).bind _ = _
  rw [e]
  rfl
theorem row_ok {v : D} (nl : ∀ n, v ≠ .lam n) (p : Str × Str × Str) {r : En} {h : Hd} : eRow p (some v :: r) h = .ok (row v p) h :=
  tup_ok (cons_ok (mk_ok (var_ok nl rfl)) (cons_ok (mk_ok (var_ok nl rfl)) rfl)) (by simp)
theorem addrow {v : D} (nl : ∀ n, v ≠ .lam n) (p : Str × Str × Str) {a : Nat} {L : List (Str × Str × Str)} {h : Hd} (ha : h[a]? = some (.lst (L.map (row v)))) (hl : L.length + 1 ≤ 1000) :
    ∃ a' h', sAsg (eOp gAdd (eVar 1) (eLst (aCons (eRow p) aNil))) (gSet 1) [some v, some (.ref a)] h = .nx [some v, some (.ref a')] h' ∧ Kp [] h h' ∧ h'[a']? = some (.lst ((L ++ [p]).map (row v))) := by
  refine ⟨_, _, asg_ok (i := 1) ((op_ok (x := .ref a) rfl (lst_ok (cons_ok (row_ok nl p) rfl) (by simp))).trans (cat_lst (app_old ha) at_new (by simpa using hl))) (by simp), Kp.app.trans Kp.app, ?_⟩
  rw [at_new, List.map_append]
  rfl
theorem retrow {v : D} (nl : ∀ n, v ≠ .lam n) (p : Str × Str × Str) {a : Nat} {L : List (Str × Str × Str)} {h : Hd} (ha : h[a]? = some (.lst (L.map (row v)))) (hl : L.length + 1 ≤ 1000) :
    ∃ a' h', sRet (eOp gAdd (eVar 1) (eLst (aCons (eRow p) aNil))) [some v, some (.ref a)] h = .rt (.ref a') h' ∧ Kp [] h h' ∧ h'[a']? = some (.lst ((L ++ [p]).map (row v))) := by
  refine ⟨_, _, ret_ok ((op_ok (x := .ref a) rfl (lst_ok (cons_ok (row_ok nl p) rfl) (by simp))).trans (cat_lst (app_old ha) at_new (by simpa using hl))), Kp.app.trans Kp.app, ?_⟩
  rw [at_new, List.map_append]
  rfl
def r0 : Str × Str × Str := ("BadWeb", "place", "no such web")
def r1 : Str × Str × Str := ("BadLaurent", "place", "no such polynomial")
def r2 : Str × Str × Str := ("BadSeed", "place", "no such seed")
def r3 : Str × Str × Str := ("BadRow", "place", "no such row")
def r4 : Str × Str × Str := ("BadType", "place", "no such kind")
def r5 : Str × Str × Str := ("BadSurface", "place", "no such surface")
def r6 : Str × Str × Str := ("BadFrieze", "place", "no such frieze")
def r7 : Str × Str × Str := ("BadPattern", "place", "no such pattern")
def r8 : Str × Str × Str := ("BadCartan", "place", "no such matrix")
def r9 : Str × Str × Str := ("BadRoot", "place", "no such root")
def r10 : Str × Str × Str := ("BadTriple", "place", "no such triple")
def r11 : Str × Str × Str := ("BadMap", "place", "no such permutation")
def r12 : Str × Str × Str := ("BadText", "place", "no such text")
def r13 : Str × Str × Str := ("BadPaper", "place", "no such paper")
def r14 : Str × Str × Str := ("BadDeed", "place", "no such deed")
def v0 : Str × Str × Str := ("BadNumber", "value", "no such number")
def v1 : Str × Str × Str := ("BadPoint", "value", "no such point")
def rowsP : List (Str × Str × Str) := [r0, r1, r2, r3, r4, r5, r6, r7, r8, r9, r10, r11, r12, r13, r14]
def rowsV : List (Str × Str × Str) := [v0, v1]
theorem placed_ok {v : D} (nl : ∀ n, v ≠ .lam n) (h : Hd) : ∃ a h', s__law_placed [v] h = .ok (.ref a) h' ∧ Kp [] h h' ∧ h'[a]? = some (.lst (rowsP.map (row v))) := by
  have s0 : b__law_placed_0 [some v, none] h = .nx [some v, some (.ref h.length)] (h ++ [.lst [row v r0]]) := asg_ok (i := 1) (lst_ok (cons_ok (row_ok nl r0) rfl) (by simp)) (by simp)
  have q0 : (h ++ [Ob.lst [row v r0]])[h.length]? = some (.lst ([r0].map (row v))) := at_new
  obtain ⟨a1, h1, s1, k1, q1⟩ := addrow nl r1 (L := [r0]) q0 (by simp)
  obtain ⟨a2, h2, s2, k2, q2⟩ := addrow nl r2 (L := [r0, r1]) q1 (by simp)
  obtain ⟨a3, h3, s3, k3, q3⟩ := addrow nl r3 (L := [r0, r1, r2]) q2 (by simp)
  obtain ⟨a4, h4, s4, k4, q4⟩ := addrow nl r4 (L := [r0, r1, r2, r3]) q3 (by simp)
  obtain ⟨a5, h5, s5, k5, q5⟩ := addrow nl r5 (L := [r0, r1, r2, r3, r4]) q4 (by simp)
  obtain ⟨a6, h6, s6, k6, q6⟩ := addrow nl r6 (L := [r0, r1, r2, r3, r4, r5]) q5 (by simp)
  obtain ⟨a7, h7, s7, k7, q7⟩ := addrow nl r7 (L := [r0, r1, r2, r3, r4, r5, r6]) q6 (by simp)
  obtain ⟨a8, h8, s8, k8, q8⟩ := addrow nl r8 (L := [r0, r1, r2, r3, r4, r5, r6, r7]) q7 (by simp)
  obtain ⟨a9, h9, s9, k9, q9⟩ := addrow nl r9 (L := [r0, r1, r2, r3, r4, r5, r6, r7, r8]) q8 (by simp)
  obtain ⟨a10, h10, s10, k10, q10⟩ := addrow nl r10 (L := [r0, r1, r2, r3, r4, r5, r6, r7, r8, r9]) q9 (by simp)
  obtain ⟨a11, h11, s11, k11, q11⟩ := addrow nl r11 (L := [r0, r1, r2, r3, r4, r5, r6, r7, r8, r9, r10]) q10 (by simp)
  obtain ⟨a12, h12, s12, k12, q12⟩ := addrow nl r12 (L := [r0, r1, r2, r3, r4, r5, r6, r7, r8, r9, r10, r11]) q11 (by simp)
  obtain ⟨a13, h13, s13, k13, q13⟩ := addrow nl r13 (L := [r0, r1, r2, r3, r4, r5, r6, r7, r8, r9, r10, r11, r12]) q12 (by simp)
  obtain ⟨a14, h14, s14, k14, q14⟩ := retrow nl r14 (L := [r0, r1, r2, r3, r4, r5, r6, r7, r8, r9, r10, r11, r12, r13]) q13 (by simp)
  refine ⟨a14, h14, run_rt [some v, none] ?_, Kp.app.trans (k1.trans (k2.trans (k3.trans (k4.trans (k5.trans (k6.trans (k7.trans (k8.trans (k9.trans (k10.trans (k11.trans (k12.trans (k13.trans k14))))))))))))), q14⟩
  unfold b__law_placed
  exact (seq_nx s0).trans ((seq_nx s1).trans ((seq_nx s2).trans ((seq_nx s3).trans ((seq_nx s4).trans ((seq_nx s5).trans ((seq_nx s6).trans ((seq_nx s7).trans ((seq_nx s8).trans ((seq_nx s9).trans ((seq_nx s10).trans ((seq_nx s11).trans ((seq_nx s12).trans ((seq_nx s13).trans (s14))))))))))))))
theorem valued_ok {v : D} (nl : ∀ n, v ≠ .lam n) (h : Hd) : ∃ a h', s__law_valued [v] h = .ok (.ref a) h' ∧ Kp [] h h' ∧ h'[a]? = some (.lst (rowsV.map (row v))) := by
  have s0 : b__law_valued_0 [some v, none] h = .nx [some v, some (.ref h.length)] (h ++ [.lst [row v v0]]) := asg_ok (i := 1) (lst_ok (cons_ok (row_ok nl v0) rfl) (by simp)) (by simp)
  have q0 : (h ++ [Ob.lst [row v v0]])[h.length]? = some (.lst ([v0].map (row v))) := at_new
  obtain ⟨a1, h1, s1, k1, q1⟩ := retrow nl v1 (L := [v0]) q0 (by simp)
  refine ⟨a1, h1, run_rt [some v, none] ?_, Kp.app.trans k1, q1⟩
  unfold b__law_valued
  exact (seq_nx s0).trans s1
theorem rowsV_ok : (rowsV.all fun p => okC p.1 [p.1, "base", "value"]) = true := by decide +kernel
theorem rowsP_ok : (rowsP.all fun p => okC p.1 [p.1, "base", "value"]) = true := by decide +kernel
theorem noSuch_ok : okC "NoSuch" ["NoSuch", "lookup"] = true := by decide +kernel
theorem tooMany_ok : okC "TooMany" ["TooMany", "overflow"] = true := by decide +kernel
end Lw

set_option Elab.async false
set_option linter.all false
set_option maxRecDepth 100000
set_option maxHeartbeats 2000000
namespace Lw
open PySem PySem.Spec PyProof.Rows L2 Mi
/-- a thing that is itself by == -/
structure Nice (v : D) : Prop where
  nl : ∀ n, v ≠ .lam n
  same : ∀ h, gNe v v h = .ok (.bl false) h
theorem toP_strs {n : Nat} {h : Hd} (l : List Str) : (l.map D.str).mapM (toP (n + 1) h) = some (l.map PyData.str) := toP_map l fun _ _ => rfl
theorem toP_lstS {n r : Nat} {h : Hd} {l : List Str} (e : h[r]? = some (.lst (l.map .str))) : toP (n + 2) h (.ref r) = some (.list (l.map .str)) := by
  unfold toP
  rw [e]
  show ((l.map D.str).mapM (toP (n + 1) h)).map PyData.list = _
  rw [toP_strs]
  rfl
theorem shaped_lay {d : PyData} (s : SeqAt.shaped d = true) : PyData.eqv d d = true := by
  unfold SeqAt.shaped at s
  exact SeqAt.eqv_refl d (He.ba s).1
theorem deep_same {x y : D} {h : Hd} {d : PyData} (hx : toP maxP h x = some d) (hy : toP maxP h y = some d) (s : SeqAt.shaped d = true) : eqDeep x y h not = .ok (.bl false) h := by
  rw [deep_ok hx hy s s, shaped_lay s]
  rfl
theorem ne_strs {a b : Nat} {ws : List Str} {h : Hd} (ea : h[a]? = some (.lst (ws.map .str))) (eb : h[b]? = some (.lst (ws.map .str))) (s : SeqAt.shaped (.list (ws.map .str)) = true) : gNe (.ref a) (.ref b) h = .ok (.bl false) h := by
  show eqB (.ref a) (.ref b) h not = _
  rw [eqB_ref]
  exact deep_same (toP_lstS (n := 22) ea) (toP_lstS (n := 22) eb) s
def okD (c : Str) (ws : List Str) : Bool := okC c ws && SeqAt.shaped (.list (ws.map PyData.str))
theorem t_kinds {c f m : Str} {v : D} {ws : List Str} {j : Nat} {fa : Fa} {env : En} (q : okD c ws = true) (e : env[j]? = some (some (.exv c f v m))) (hf : ∀ h, fa env h = .ok (ws.map .str) h) (hl : ws.length ≤ 1000) (h : Hd) :
    ∃ h', tOf (eOp gNe (eCall s__law_kinds (aCons (eVar j) aNil)) (eLst fa)) env h = .ok false h' ∧ Kp [] h h' := by
  obtain ⟨q1, q2⟩ := He.ba q
  obtain ⟨a, h1, e1, k1, g1⟩ := kinds_of q1 f m v h
  refine ⟨h1 ++ [.lst (ws.map .str)], tOf_ok ((op_ok ((call_ok (ds := [.exv c f v m]) (cons_ok (var_ok (by intro n z; cases z) e) rfl)).trans e1) (lst_ok (hf h1) (by rw [List.length_map]; exact hl))).trans (ne_strs (app_old g1) at_new q2)), k1.trans Kp.app⟩
theorem t_field {c f m : Str} {v : D} {cs : List Str} {j : Nat} {env : En} (N : Nice v) (e : env[j]? = some (some (.exv c f v m))) (e0 : env[0]? = some (some v)) (hc : cs.contains c = true) (h : Hd) :
    tOf (eOp gNe (eFldV f cs (eVar j)) (eVar 0)) env h = .ok false h := by
  have x : eFldV f cs (eVar j) env h = .ok v h := by
    show (eVar j env h).bind _ = _
    rw [var_ok (by intro n z; cases z) e]
    show (if (f == f && cs.contains c) = true then Res.ok v h else .no) = _
    rw [hc, beq_self_eq_true]
    rfl
  exact tOf_ok ((op_ok x (var_ok N.nl e0)).trans (N.same h))
/-! ### the rows -/
abbrev tgR : Fg := gUnp 3 (gsCons (gSet 1) (gsCons (gSet 2) (gsCons (gSet 3) gsNil)))
noncomputable def bodyR (f : Str) (cs : List Str) : Fs :=
  sSeq (sIf (tOrD (tOf (eOp gNe (eCall s__law_kinds (aCons (eVar 1) aNil)) (eLst (aCons (eVar 3) (aCons (eC (.str "base")) (aCons (eC (.str "value")) aNil)))))) (tOf (eOp gNe (eCall s__law_kinds (aCons (eVar 2) aNil)) (eLst (aCons (eVar 3) (aCons (eC (.str "base")) (aCons (eC (.str "value")) aNil))))))) (sRet (eC (.bl false))) sNil)
    (sIf (tOrD (tOf (eOp gNe (eFldV f cs (eVar 1)) (eVar 0))) (tOf (eOp gNe (eFldV f cs (eVar 2)) (eVar 0)))) (sRet (eC (.bl false))) sNil)
theorem turnR {f : Str} {cs : List Str} {v : D} (N : Nice v) {p : Str × Str × Str} (q : okD p.1 [p.1, "base", "value"] = true) (hf : p.2.1 = f) (hc : cs.contains p.1 = true) (x1 x2 x3 : Option D) (h : Hd) :
    ∃ h', stepS tgR (bodyR f cs) (row v p) [some v, x1, x2, x3] h = .nx [some v, some (.exv p.1 f v p.2.2), some (.exv p.1 f v p.2.2), some (.str p.1)] h' ∧ Kp [] h h' := by
  subst hf
  let env : En := [some v, some (.exv p.1 p.2.1 v p.2.2), some (.exv p.1 p.2.1 v p.2.2), some (.str p.1)]
  obtain ⟨h1, e1, k1⟩ := t_kinds (j := 1) (env := env) (fa := aCons (eVar 3) (aCons (eC (.str "base")) (aCons (eC (.str "value")) aNil))) q rfl (fun _ => rfl) (by simp) h
  obtain ⟨h2, e2, k2⟩ := t_kinds (j := 2) (env := env) (fa := aCons (eVar 3) (aCons (eC (.str "base")) (aCons (eC (.str "value")) aNil))) q rfl (fun _ => rfl) (by simp) h1
  refine ⟨h2, ?_, k1.trans k2⟩
  have b : bodyR p.2.1 cs env h = .nx env h2 := by
    unfold bodyR
    refine (seq_nx ((if_no (or_no e1 e2)).trans rfl)).trans ?_
    exact (if_no (or_no (t_field N (env := env) rfl rfl hc h2) (t_field N (env := env) rfl rfl hc h2))).trans rfl
  show (match bodyR p.2.1 cs env h with
    | .ct env2 h2 => SRes.nx env2 h2
    | r => r) = _
  rw [b]
theorem loopR {f : Str} {cs : List Str} {v : D} (N : Nice v) {rows : List (Str × Str × Str)} (hr : ∀ p ∈ rows, okD p.1 [p.1, "base", "value"] = true ∧ p.2.1 = f ∧ cs.contains p.1 = true) (hl : rows.length ≤ 1000) {fe : Fe} {a : Nat} {x1 x2 x3 : Option D} {h h0 : Hd}
    (e : fe [some v, x1, x2, x3] h0 = .ok (.ref a) h) (ha : h[a]? = some (.lst (rows.map (row v)))) :
    ∃ y1 y2 y3 h', sFor (iOf fe) tgR (bodyR f cs) [some v, x1, x2, x3] h0 = .nx [some v, y1, y2, y3] h' ∧ Kp [] h h' := by
  obtain ⟨env', h', e', ⟨y1, y2, y3, rfl⟩, kp⟩ := for_ref (tg := tgR) (body := bodyR f cs) (env := [some v, x1, x2, x3]) (h := h) (a := a) (xs := rows.map (row v)) (fun env h1 => (∃ y1 y2 y3, env = [some v, y1, y2, y3]) ∧ Kp [] h h1) ⟨⟨_, _, _, rfl⟩, Kp.refl⟩ ha
    (fun env1 h1 j => j.2.at_ _ _ (by simp) ha) (fun d hd env1 h1 j => by
      obtain ⟨⟨y1, y2, y3, rfl⟩, kp⟩ := j
      obtain ⟨p, hp, rfl⟩ := List.mem_map.mp hd
      obtain ⟨q1, q2, q3⟩ := hr p hp
      obtain ⟨h2, e2, k2⟩ := turnR N q1 q2 q3 y1 y2 y3 h1
      exact ⟨_, h2, e2, ⟨_, _, _, rfl⟩, kp.trans k2⟩) (by rw [List.length_map]; omega)
  exact ⟨y1, y2, y3, h', (sFor_ok (iOf_ref e ha)).trans e', kp⟩
/-- one error, twice -/
noncomputable def bodyO (c f m b w : Str) (cs : List Str) : Fs := sIf (tOrD (tOf (eOp gNe (eCall s__law_kinds (aCons (eVar 1) aNil)) (eLst (aCons (eC (.str c)) (aCons (eC (.str w)) aNil))))) (tOf (eOp gNe (eFldV f cs (eVar 1)) (eVar 0)))) (sRet (eC (.bl false))) sNil
theorem loopO {c f m w : Str} {cs : List Str} {v : D} (N : Nice v) (q : okD c [c, w] = true) (hc : cs.contains c = true) (x1 x2 x3 : Option D) (h : Hd) :
    ∃ y1 h', sFor (iOf (eTup (aCons (eMk c f m (eVar 0)) (aCons (eMk c f m (eVar 0)) aNil)))) (gSet 1) (bodyO c f m m w cs) [some v, x1, x2, x3] h = .nx [some v, y1, x2, x3] h' ∧ Kp [] h h' := by
  have e : eTup (aCons (eMk c f m (eVar 0)) (aCons (eMk c f m (eVar 0)) aNil)) [some v, x1, x2, x3] h = .ok (.tup [.exv c f v m, .exv c f v m]) h := tup_ok (cons_ok (mk_ok (var_ok N.nl rfl)) (cons_ok (mk_ok (var_ok N.nl rfl)) rfl)) (by simp)
  obtain ⟨env', h', e', ⟨y1, rfl⟩, kp⟩ := for_tup (tg := gSet 1) (body := bodyO c f m m w cs) (env := [some v, x1, x2, x3]) (h := h) (xs := [D.exv c f v m, .exv c f v m]) (fun env h1 => (∃ y1, env = [some v, y1, x2, x3]) ∧ Kp [] h h1) ⟨⟨_, rfl⟩, Kp.refl⟩
    (fun d hd env1 h1 j => by
      obtain ⟨⟨y1, rfl⟩, kp⟩ := j
      have ed : d = .exv c f v m := by simpa using hd
      subst ed
      obtain ⟨h2, e2, k2⟩ := t_kinds (j := 1) (env := [some v, some (.exv c f v m), x2, x3]) (fa := aCons (eC (.str c)) (aCons (eC (.str w)) aNil)) q rfl (fun _ => rfl) (by simp) h1
      refine ⟨[some v, some (.exv c f v m), x2, x3], h2, ?_, ⟨_, rfl⟩, kp.trans k2⟩
      have b : bodyO c f m m w cs [some v, some (.exv c f v m), x2, x3] h1 = .nx [some v, some (.exv c f v m), x2, x3] h2 := by
        unfold bodyO
        exact (if_no (or_no e2 (t_field N (env := [some v, some (.exv c f v m), x2, x3]) rfl rfl hc h2))).trans rfl
      show (match bodyO c f m m w cs [some v, some (.exv c f v m), x2, x3] h1 with
        | .ct env2 h2 => SRes.nx env2 h2
        | r => r) = _
      rw [b]) (by simp)
  exact ⟨y1, h', (sFor_ok (iOf_tup e)).trans e', kp⟩
theorem right_ok {v : D} (N : Nice v) (h : Hd) : ∃ h', s__law_right [v] h = .ok (.bl true) h' ∧ Kp [] h h' := by
  have hV : ∀ p ∈ rowsV, okD p.1 [p.1, "base", "value"] = true ∧ p.2.1 = "value" ∧ fcs_value.contains p.1 = true := by
    have z : (rowsV.all fun p => okD p.1 [p.1, "base", "value"] && (decide (p.2.1 = "value") && fcs_value.contains p.1)) = true := by decide +kernel
    intro p hp
    obtain ⟨z1, z2⟩ := He.ba (List.all_eq_true.mp z p hp)
    obtain ⟨z3, z4⟩ := He.ba z2
    exact ⟨z1, of_decide_eq_true z3, z4⟩
  have hP : ∀ p ∈ rowsP, okD p.1 [p.1, "base", "value"] = true ∧ p.2.1 = "place" ∧ fcs_place.contains p.1 = true := by
    have z : (rowsP.all fun p => okD p.1 [p.1, "base", "value"] && (decide (p.2.1 = "place") && fcs_place.contains p.1)) = true := by decide +kernel
    intro p hp
    obtain ⟨z1, z2⟩ := He.ba (List.all_eq_true.mp z p hp)
    obtain ⟨z3, z4⟩ := He.ba z2
    exact ⟨z1, of_decide_eq_true z3, z4⟩
  obtain ⟨a1, h1, e1, k1, q1⟩ := valued_ok N.nl h
  obtain ⟨y1, y2, y3, h2, s1, k2⟩ := loopR (f := "value") (cs := fcs_value) N hV (by decide) (fe := eCall s__law_valued (aCons (eVar 0) aNil)) (x1 := none) (x2 := none) (x3 := none) ((call_ok (ds := [v]) (cons_ok (var_ok N.nl rfl) rfl)).trans e1) q1
  obtain ⟨a2, h3, e3, k3, q3⟩ := placed_ok N.nl h2
  obtain ⟨z1, z2, z3, h4, s2, k4⟩ := loopR (f := "place") (cs := fcs_place) N hP (by decide) (fe := eCall s__law_placed (aCons (eVar 0) aNil)) (x1 := y1) (x2 := y2) (x3 := y3) ((call_ok (ds := [v]) (cons_ok (var_ok N.nl rfl) rfl)).trans e3) q3
  obtain ⟨w1, h5, s3, k5⟩ := loopO (c := "NoSuch") (f := "value") (m := "nothing so called") (w := "lookup") (cs := fcs_value) N (by decide +kernel) (by decide +kernel) z1 z2 z3 h4
  obtain ⟨w2, h6, s4, k6⟩ := loopO (c := "TooMany") (f := "most") (m := "too many") (w := "overflow") (cs := fcs_most) N (by decide +kernel) (by decide +kernel) w1 z2 z3 h5
  refine ⟨h6, run_rt [some v, none, none, none] ?_, k1.trans (k2.trans (k3.trans (k4.trans (k5.trans k6))))⟩
  unfold b__law_right
  exact (seq_nx s1).trans ((seq_nx s2).trans ((seq_nx s3).trans ((seq_nx s4).trans rfl)))
end Lw

set_option Elab.async false
set_option linter.all false
set_option maxRecDepth 100000
set_option maxHeartbeats 2000000
namespace Lw
open PySem PySem.Spec PyProof.Rows L2 Mi
/-! ### things -/
theorem nice_int (i : Int) : Nice (.int i) := ⟨(by intro n z; cases z), fun h => by
  show Res.ok (D.bl (!(decide (i = i)))) h = _
  rw [decide_eq_true rfl]
  rfl⟩
theorem nice_str (s : Str) : Nice (.str s) := ⟨(by intro n z; cases z), fun h => by
  show Res.ok (D.bl (!(decide (s = s)))) h = _
  rw [decide_eq_true rfl]
  rfl⟩
theorem nice_tup {xs : List D} {d : PyData} (hx : ∀ h, toP maxP h (.tup xs) = some d) (s : SeqAt.shaped d = true) : Nice (.tup xs) := ⟨(by intro n z; cases z), fun h => by
  show eqB (.tup xs) (.tup xs) h not = _
  rw [eqB_tup]
  exact deep_same (hx h) (hx h) s⟩
theorem nice_non : Nice .non := ⟨(by intro n z; cases z), fun h => by
  show eqDeep .non .non h not = _
  exact deep_same (d := .none) rfl rfl rfl⟩
theorem atI_nat' {A : Type} {l : List A} {k : Nat} (h : k < l.length) : atI l (k : Int) = l[k]? := by
  unfold atI ixN
  rw [if_pos (by omega), if_pos (by omega)]
  rfl
theorem ix_lst {r : Nat} {xs : List D} {h : Hd} {k : Nat} (e : h[r]? = some (.lst xs)) (hk : k < xs.length) : gIx (.ref r) (.int (k : Nat)) h = .ok (xs.getD k .non) h := by
  unfold gIx
  dsimp only
  rw [e]
  dsimp only [ixSeq]
  rw [atI_nat' hk, List.getD_eq_getElem?_getD, List.getElem?_eq_getElem hk]
  rfl
theorem powB_ok {i j : Int} {h : Hd} (h0 : 0 ≤ j) (hb : (Builtin.Int.intBits i : Int) * j ≤ 2 ^ 27) : gPowB (.int i) (.int j) h = .ok (.int (i ^ j.toNat)) h := by
  unfold gPowB
  dsimp only
  rw [if_pos (by rw [decide_eq_true h0, decide_eq_true hb]; rfl)]
theorem big_ok {env : En} {h : Hd} : ∃ i, eOp gPowB (eOp gPowB (eOp gPow (eC (.int 10)) (eC (.int 50))) (eC (.int 50))) (eC (.int 2)) env h = .ok (.int i) h := by
  have p0 : eOp gPow (eC (.int 10)) (eC (.int 50)) env h = .ok (.int ((10 : Int) ^ 50)) h := by
    refine (op_ok (x := .int 10) (y := .int 50) rfl rfl).trans ?_
    rfl
  have p1 : eOp gPowB (eOp gPow (eC (.int 10)) (eC (.int 50))) (eC (.int 50)) env h = .ok (.int (((10 : Int) ^ 50) ^ 50)) h :=
    (op_ok p0 (y := .int 50) rfl).trans (powB_ok (i := (10 : Int) ^ 50) (j := 50) (by decide) (by decide +kernel))
  exact ⟨_, (op_ok p1 (y := .int 2) rfl).trans (powB_ok (i := ((10 : Int) ^ 50) ^ 50) (j := 2) (by decide) (by decide +kernel))⟩
theorem ab_ok : ∀ k : Nat, k < 50 → MulOk ("ab" : Str) (k : Int) := by decide +kernel
theorem atom_sh {n : Int} : SeqAt.shaped (.tuple [.str "atom", .tuple [.int 0, .int n]]) = true := by
  have e : SeqAt.shaped (.tuple [.str "atom", .tuple [.int 0, .int 0]]) = true := by decide +kernel
  unfold SeqAt.shaped at e ⊢
  simp only [PyData.canLay0, PyData.canLayAll0, PyData.depth, PyData.depthAll] at e ⊢
  exact e
/-- the seven things -/
theorem seven_ok (n : Int) (h0 : 0 ≤ n) {env : En} (e : env[4]? = some (some (.int n))) (h : Hd) : ∃ xs : List D, eLst (aCons (eVar 4) (aCons (eOp gSub (eC (.int 0)) (eVar 4)) (aCons (eOp gMulS (eC (.str "ab")) (eOp gMod (eVar 4) (eC (.int 50)))) (aCons (eTup (aCons (eC (.str "atom")) (aCons (eTup (aCons (eC (.int 0)) (aCons (eVar 4) aNil))) aNil))) (aCons (eC .non) (aCons (eTup (aCons (eOp gPow (eC (.int 10)) (eC (.int 30))) (aCons (eTup aNil) aNil))) (aCons (eOp gMul (eTup (aCons (eVar 4) aNil)) (eC (.int 9))) aNil))))))) env h
      = .ok (.ref h.length) (h ++ [.lst xs]) ∧ xs.length = 7 ∧ ∀ x ∈ xs, Nice x := by
  have ev : ∀ h, eVar 4 env h = .ok (.int n) h := fun h => var_ok (by intro n z; cases z) e
  have c3 : eOp gMulS (eC (.str "ab")) (eOp gMod (eVar 4) (eC (.int 50))) env h = .ok (.str (Txt.mul "ab" (n.fmod 50))) h := by
    have m : eOp gMod (eVar 4) (eC (.int 50)) env h = .ok (.int (n.fmod 50)) h := (op_ok (ev h) (y := .int 50) rfl).trans rfl
    refine (op_ok (x := .str "ab") rfl m).trans ?_
    have b1 : 0 ≤ n.fmod 50 := Int.fmod_nonneg_of_pos n (by decide)
    have b2 : n.fmod 50 < 50 := Int.fmod_lt_of_pos n (by decide)
    have ok : MulOk ("ab" : Str) (n.fmod 50) := by
      have := ab_ok (n.fmod 50).toNat (by omega)
      rwa [Int.toNat_of_nonneg b1] at this
    unfold gMulS
    dsimp only
    rw [if_pos (decide_eq_true ok)]
  have c4 : eTup (aCons (eC (.str "atom")) (aCons (eTup (aCons (eC (.int 0)) (aCons (eVar 4) aNil))) aNil)) env h = .ok (.tup [.str "atom", .tup [.int 0, .int n]]) h :=
    tup_ok (cons_ok rfl (cons_ok (tup_ok (cons_ok rfl (cons_ok (ev h) rfl)) (by simp)) rfl)) (by simp)
  have c6 : eTup (aCons (eOp gPow (eC (.int 10)) (eC (.int 30))) (aCons (eTup aNil) aNil)) env h = .ok (.tup [.int ((10 : Int) ^ 30), .tup []]) h :=
    tup_ok (cons_ok ((op_ok (x := .int 10) (y := .int 30) rfl rfl).trans rfl) (cons_ok (tup_ok rfl (by simp)) rfl)) (by simp)
  have c7 : eOp gMul (eTup (aCons (eVar 4) aNil)) (eC (.int 9)) env h = .ok (.tup [.int n, .int n, .int n, .int n, .int n, .int n, .int n, .int n, .int n]) h :=
    (op_ok (tup_ok (cons_ok (ev h) rfl) (by simp)) (y := .int 9) rfl).trans rfl
  refine ⟨_, lst_ok (cons_ok (ev h) (cons_ok ((op_ok (x := .int 0) rfl (ev h)).trans rfl) (cons_ok c3 (cons_ok c4 (cons_ok rfl (cons_ok c6 (cons_ok c7 rfl))))))) (by simp), by simp, fun x hx => ?_⟩
  simp only [List.mem_cons, List.mem_nil_iff, or_false] at hx
  rcases hx with rfl | rfl | rfl | rfl | rfl | rfl | rfl
  · exact nice_int _
  · exact nice_int _
  · exact nice_str _
  · exact nice_tup (d := .tuple [.str "atom", .tuple [.int 0, .int n]]) (fun h => rfl) atom_sh
  · exact nice_non
  · exact nice_tup (d := .tuple [.int ((10 : Int) ^ 30), .tuple []]) (fun h => rfl) rfl
  · exact nice_tup (d := .tuple [.int n, .int n, .int n, .int n, .int n, .int n, .int n, .int n, .int n]) (fun h => rfl) rfl
/-! ### the first loop -/
theorem cut_four (ns : List Int) : Mi.cutD (ns.map D.int) none (some 4) = (ns.take 4).map D.int := by
  unfold Mi.cutD HT.sIx
  dsimp only
  rw [if_neg (by omega), List.length_map, List.drop_zero, Nat.sub_zero, show (4 : Int).toNat = 4 from rfl, ← List.map_take]
  by_cases hl : 4 ≤ ns.length
  · rw [Nat.min_eq_left hl]
  · rw [Nat.min_eq_right (by omega), List.take_of_length_le (by omega), List.take_of_length_le (by omega)]
noncomputable def body0 : Fs := sSeq (sAsg (eCall s__law_draw (aCons (eVar 2) (aCons (eVar 1) aNil))) (gSet 3))
    (sSeq (sAsg (eCall s__law_digit (aCons (eVar 3) (aCons (eC (.int 100000)) aNil))) (gSet 4))
    (sSeq (sAsg (eLst (aCons (eVar 4) (aCons (eOp gSub (eC (.int 0)) (eVar 4)) (aCons (eOp gMulS (eC (.str "ab")) (eOp gMod (eVar 4) (eC (.int 50)))) (aCons (eTup (aCons (eC (.str "atom")) (aCons (eTup (aCons (eC (.int 0)) (aCons (eVar 4) aNil))) aNil))) (aCons (eC .non) (aCons (eTup (aCons (eOp gPow (eC (.int 10)) (eC (.int 30))) (aCons (eTup aNil) aNil))) (aCons (eOp gMul (eTup (aCons (eVar 4) aNil)) (eC (.int 9))) aNil)))))))) (gSet 5))
    (sIf (tOrD (tNotD (tOf (eCall s__law_right (aCons (eOp gIx (eVar 5) (eCall s__law_digit (aCons (eVar 3) (aCons (eC (.int 7)) aNil)))) aNil)))) (tNotD (tOf (eCall s__law_right (aCons (eOp gPowB (eOp gPowB (eOp gPow (eC (.int 10)) (eC (.int 50))) (eC (.int 50))) (eC (.int 2))) aNil))))) (sRet (eC (.bl false))) sNil)))
theorem not_ok {t : Ft} {env : En} {h h1 : Hd} {b : Bool} (e : t env h = .ok b h1) : tNotD t env h = .ok (!b) h1 := by
  show (t env h).bind _ = _
  rw [e]
  rfl
abbrev E0 (a b c d e : Option D) : En := [some (.ref 0), a, b, c, d, e, none, none, none, none, none, none, none]
theorem turn0 (cell : Int) (i : Nat) (hi : i ≤ 9) (b c d e f : Option D) (h : Hd) : ∃ a' b' c' d' e' h', body0 (E0 (some (.int (i : Nat))) (some (.int cell)) c d e) h = .nx (E0 a' b' c' d' e') h' ∧ Kp [] h h' := by
  obtain ⟨h1, e1, st1, k1⟩ := draw_ok cell i hi h
  obtain ⟨n, h2, e2, n0, n1, st2, k2⟩ := digit_ok h.length 9000 100000 (by decide) (by decide) (by omega) h1 st1
  let en3 : En := E0 (some (.int (i : Nat))) (some (.int cell)) (some (.ref h.length)) (some (.int n)) e
  obtain ⟨xs, e3, l3, nice⟩ := seven_ok n n0 (env := en3) rfl h2
  have st3 : St h.length _ (h2 ++ [.lst xs]) := st2.keep Kp.app
  obtain ⟨j, h4, e4, j0, j1, st4, k4⟩ := digit_ok h.length _ 7 (by decide) (by decide) (by omega) (h2 ++ [.lst xs]) st3
  have hj : j.toNat < xs.length := by omega
  have lt : h.length ≤ h2.length := k2.len |> Nat.le_trans k1.len
  have q4 : h4[h2.length]? = some (.lst xs) := k4.at_ _ _ (by
    have := st1.lt
    have := k2.len
    simp
    omega) at_new
  obtain ⟨h5, e5, k5⟩ := right_ok (nice _ (getD_mem hj)) h4
  let en5 : En := E0 (some (.int (i : Nat))) (some (.int cell)) (some (.ref h.length)) (some (.int n)) (some (.ref h2.length))
  obtain ⟨g, eg⟩ := big_ok (env := en5) (h := h5)
  obtain ⟨h6, e6, k6⟩ := right_ok (nice_int g) h5
  refine ⟨some (.int (i : Nat)), some (.int cell), some (.ref h.length), some (.int n), some (.ref h2.length), h6, ?_, ?_⟩
  · have s1 : sAsg (eCall s__law_draw (aCons (eVar 2) (aCons (eVar 1) aNil))) (gSet 3) (E0 (some (.int (i : Nat))) (some (.int cell)) c d e) h = .nx (E0 (some (.int (i : Nat))) (some (.int cell)) (some (.ref h.length)) d e) h1 :=
      asg_ok (i := 3) ((call_ok (ds := [.int cell, .int (i : Nat)]) rfl).trans e1) (by simp)
    have s2 : sAsg (eCall s__law_digit (aCons (eVar 3) (aCons (eC (.int 100000)) aNil))) (gSet 4) (E0 (some (.int (i : Nat))) (some (.int cell)) (some (.ref h.length)) d e) h1 = .nx en3 h2 :=
      asg_ok (i := 4) ((call_ok (ds := [.ref h.length, .int 100000]) rfl).trans e2) (by simp)
    have s3 := asg_ok (i := 5) e3 (by simp [en3])
    have x4 : eOp gIx (eVar 5) (eCall s__law_digit (aCons (eVar 3) (aCons (eC (.int 7)) aNil))) en5 (h2 ++ [.lst xs]) = .ok (xs.getD j.toNat .non) h4 := by
      refine (op_ok (x := .ref h2.length) rfl ((call_ok (ds := [.ref h.length, .int 7]) rfl).trans e4)).trans ?_
      have := ix_lst q4 hj
      rwa [Int.toNat_of_nonneg j0] at this
    have t1 : tNotD (tOf (eCall s__law_right (aCons (eOp gIx (eVar 5) (eCall s__law_digit (aCons (eVar 3) (aCons (eC (.int 7)) aNil)))) aNil))) en5 (h2 ++ [.lst xs]) = .ok false h5 :=
      not_ok (b := true) (tOf_ok ((call_ok (cons_ok x4 rfl)).trans e5))
    have t2 : tNotD (tOf (eCall s__law_right (aCons (eOp gPowB (eOp gPowB (eOp gPow (eC (.int 10)) (eC (.int 50))) (eC (.int 50))) (eC (.int 2))) aNil))) en5 h5 = .ok false h6 :=
      not_ok (b := true) (tOf_ok ((call_ok (cons_ok eg rfl)).trans e6))
    unfold body0
    exact (seq_nx s1).trans ((seq_nx s2).trans ((seq_nx s3).trans ((if_no (or_no t1 t2)).trans rfl)))
  · have ka : Kp [h.length] h1 h6 := k2.trans ((Kp.any Kp.app).trans (k4.trans (Kp.any (k5.trans k6))))
    exact ⟨Nat.le_trans k1.len ka.len, fun x o hx q => ka.at_ _ _ (by
      have := (List.getElem?_eq_some_iff.mp q).1
      simp
      omega) (k1.at_ _ _ hx q)⟩
end Lw

set_option Elab.async false
set_option linter.all false
set_option maxRecDepth 100000
set_option maxHeartbeats 2000000
namespace Lw
open PySem PySem.Spec PyProof.Rows L2 Mi
theorem law0 (ns : List Int) : ∃ h' a b c d e, b_law_0 (E0 none none none none none) [.fro (ns.map .int)] = .nx (E0 a b c d e) h' := by
  let cs := ns.take 4 ++ [ns.sum]
  have hcs : cs.length ≤ 5 := by
    show (ns.take 4 ++ [ns.sum]).length ≤ 5
    rw [List.length_append, List.length_take]
    show _ + 1 ≤ 5
    omega
  let en : En := E0 none none none none none
  let h3 : Hd := [.fro (ns.map .int), .lst ((ns.take 4).map .int), .lst [.int ns.sum], .lst ((ns.take 4).map .int ++ [.int ns.sum])]
  have c1 : eSl (eVar 0) oNone (oSome (eC (.int 4))) en [.fro (ns.map .int)] = .ok (.ref 1) [.fro (ns.map .int), .lst ((ns.take 4).map .int)] := by
    show Res.ok (D.ref 1) ([Ob.fro (ns.map .int)] ++ [Ob.lst (Mi.cutD (ns.map D.int) none (some 4))]) = _
    rw [cut_four]
    rfl
  have c2 : eLst (aCons (eCall gSum (aCons (eVar 0) aNil)) aNil) en [.fro (ns.map .int), .lst ((ns.take 4).map .int)] = .ok (.ref 2) [.fro (ns.map .int), .lst ((ns.take 4).map .int), .lst [.int ns.sum]] := by
    have s1 : gSum [.ref 0] [.fro (ns.map .int), .lst ((ns.take 4).map .int)] = .ok (.int ns.sum) [.fro (ns.map .int), .lst ((ns.take 4).map .int)] := by
      show (match intsD (ns.map D.int) with
        | some ns => Res.ok (D.int ns.sum) _
        | none => .no) = _
      rw [Mi.ints_map]
    exact (lst_ok (cons_ok ((call_ok (ds := [.ref 0]) rfl).trans s1) rfl) (by simp)).trans rfl
  have c3 : eOp gAdd (eSl (eVar 0) oNone (oSome (eC (.int 4)))) (eLst (aCons (eCall gSum (aCons (eVar 0) aNil)) aNil)) en [.fro (ns.map .int)] = .ok (.ref 3) h3 :=
    (op_ok c1 c2).trans (cat_lst (a := 1) (b := 2) (xs := (ns.take 4).map .int) (ys := [.int ns.sum]) rfl rfl (by rw [List.length_map, List.length_take]; show _ + 1 ≤ 1000; omega))
  have e3 : h3[3]? = some (.lst (cs.map .int)) := by
    show some (Ob.lst ((ns.take 4).map D.int ++ [.int ns.sum])) = some (.lst ((ns.take 4 ++ [ns.sum]).map .int))
    rw [List.map_append]
    rfl
  have c4 : iEnm (eOp gAdd (eSl (eVar 0) oNone (oSome (eC (.int 4)))) (eLst (aCons (eCall gSum (aCons (eVar 0) aNil)) aNil))) en [.fro (ns.map .int)] = .ok (enmS (liveS 3)) h3 := by
    show (eOp gAdd _ _ _ _).bind _ = _
    rw [c3]
    rfl
  have key := for_inv (src := enmS (liveS 3)) (tg := gUnp 2 (gsCons (gSet 1) (gsCons (gSet 2) gsNil))) (body := body0) (env := en) (h := h3) cs.length (fun i => .tup [.int (i : Nat), .int (cs.getD i 0)])
    (fun i env h1 => (∃ a b c d e, env = E0 a b c d e) ∧ h1[3]? = some (.lst (cs.map .int))) ⟨⟨_, _, _, _, _, rfl⟩, e3⟩ ?_ ?_ (by rw [most_eq]; omega)
  · obtain ⟨env', h', e, ⟨a, b, c, d, e5, rfl⟩, _⟩ := key
    exact ⟨h', a, b, c, d, e5, (sFor_ok c4).trans e⟩
  · rintro i env h1 hi ⟨⟨a, b, c, d, e, rfl⟩, q⟩
    refine ⟨?_, ?_⟩
    · refine enm_item ?_
      rw [live_item (.inl q) (by simpa using hi), List.getD_eq_getElem?_getD, List.getElem?_map, List.getElem?_eq_getElem hi, List.getD_eq_getElem?_getD, List.getElem?_eq_getElem hi]
      rfl
    · obtain ⟨a', b', c', d', e', h2, e2, k2⟩ := turn0 (cs.getD i 0) i (by omega) b c d e none h1
      refine ⟨E0 a' b' c' d' e', h2, ?_, ⟨_, _, _, _, _, rfl⟩, k2.at_ _ _ (by simp) q⟩
      show (match body0 (E0 (some (.int (i : Nat))) (some (.int (cs.getD i 0))) c d e) h1 with
        | .ct env2 h2 => SRes.nx env2 h2
        | r => r) = _
      rw [e2]
  · rintro env h1 ⟨_, q⟩
    refine enm_stop ?_
    have := live_stop (h := h1) (.inl q)
    rwa [List.length_map] at this
/-! ### errors made of nothing -/
theorem turn_yes {i : Nat} {el : Fe} {env : En} {d y : D} {h h' : Hd} (hi : i < env.length) (e : el (env.set i (some d)) h = .ok y h') : turnC (gSet i) tYesD el env d h = .ok [y] h' := by
  unfold turnC gSet
  rw [if_pos hi]
  show (match el (env.set i (some d)) h with
    | .ok y h3 => Res.ok [y] h3
    | _ => .no) = _
  rw [e]
theorem fld_ok {c f m : Str} {v : D} {cs : List Str} {fe : Fe} {env : En} {h h1 : Hd} (e : fe env h = .ok (.exv c f v m) h1) (hc : cs.contains c = true) : eFldV f cs fe env h = .ok v h1 := by
  show (fe env h).bind _ = _
  rw [e]
  show (if (f == f && cs.contains c) = true then Res.ok v h1 else .no) = _
  rw [hc, beq_self_eq_true]
  rfl
abbrev nonV (p : Str × Str × Str) : D := .exv p.1 p.2.1 .non p.2.2
theorem nons_ok {f : Str} {cs : List Str} {i : Nat} {rows : List (Str × Str × Str)} (hr : ∀ p ∈ rows, p.2.1 = f ∧ cs.contains p.1 = true) (hl : rows.length ≤ 1000) {env : En} (h9 : 9 < env.length) (w9 : wipeE env [9] = env) (e : ∃ a, env[i]? = some (some (.ref a)) ∧ ∀ h, eVar i env h = .ok (.ref a) h) {h : Hd}
    (hx : ∀ a, env[i]? = some (some (.ref a)) → h[a]? = some (.lst (rows.map nonV))) (k : Nat) (hk : k = rows.length) (hrk : rngOk (k : Nat) = true) (s : SeqAt.shaped (.list (List.replicate k .none)) = true) :
    ∃ h', tOf (eOp gNe (eLc (iOf (eVar i)) (gSet 9) tYesD (eFldV f cs (eVar 9)) [9]) (eOp gMul (eLst (aCons (eC .non) aNil)) (eC (.int (k : Nat))))) env h = .ok false h' ∧ Kp [] h h' := by
  obtain ⟨a, ea, ev⟩ := e
  have q := hx a ea
  obtain ⟨h1, e1, k1, q1⟩ := lc_ref (tg := gSet 9) (tst := tYesD) (el := eFldV f cs (eVar 9)) (env := env) (h := h) (a := a) (xs := rows.map nonV) (fun _ => [.non]) q (fun d hd h1 _ => by
    obtain ⟨p, hp, rfl⟩ := List.mem_map.mp hd
    obtain ⟨rfl, hc⟩ := hr p hp
    refine ⟨h1, turn_yes h9 (fld_ok (var_ok (v := nonV p) (by intro n z; cases z) ?_) hc), Kp.refl⟩
    rw [List.getElem?_set_self h9]) (by rw [List.length_map]; omega)
  have q2 : h1[h.length]? = some (.lst (List.replicate k .non)) := by
    rw [q1, hk, List.flatMap_map]
    clear hx hr q q1 hk hrk s hl
    congr 2
    induction rows with
    | nil => rfl
    | cons p r ih => rw [List.flatMap_cons, ih]; rfl
  have c1 : eLc (iOf (eVar i)) (gSet 9) tYesD (eFldV f cs (eVar 9)) [9] env h = .ok (.ref h.length) h1 := by
    rw [eLc_ok (iOf_ref (a := a) (ev h) q), w9]
    exact e1
  have fl : (List.replicate k [D.non]).flatten = List.replicate k D.non := by
    clear c1 q2 s hrk hk
    induction k with
    | zero => rfl
    | succ k ih => rw [List.replicate_succ, List.replicate_succ, List.flatten_cons, ih]; rfl
  have c2 : eOp gMul (eLst (aCons (eC .non) aNil)) (eC (.int (k : Nat))) env h1 = .ok (.ref (h1 ++ [Ob.lst [D.non]]).length) (h1 ++ [.lst [.non]] ++ [.lst (List.replicate k .non)]) := by
    refine (op_ok (lst_ok (xs := [.non]) rfl (by simp)) (y := .int (k : Nat)) rfl).trans ?_
    unfold gMul
    dsimp only
    rw [at_new]
    dsimp only
    rw [if_pos (by rw [hrk]; simp; omega), Int.toNat_natCast, fl]
  refine ⟨h1 ++ [.lst [.non]] ++ [.lst (List.replicate k .non)], tOf_ok ((op_ok c1 c2).trans ?_), k1.trans (Kp.app.trans Kp.app)⟩
  show eqB (.ref _) (.ref _) _ not = _
  rw [eqB_ref]
  have tp : ∀ {r : Nat} {g : Hd}, g[r]? = some (.lst (List.replicate k .non)) → toP maxP g (.ref r) = some (.list (List.replicate k .none)) := fun {r g} e => by
    show toP 24 g (.ref r) = _
    unfold toP
    rw [e]
    show ((List.replicate k D.non).mapM (toP 23 g)).map PyData.list = _
    have := toP_map (f := fun _ : Unit => D.non) (g := fun _ => PyData.none) (n := 23) (h := g) (List.replicate k ()) (fun _ _ => rfl)
    rw [List.map_replicate, List.map_replicate] at this
    rw [this]
    rfl
  exact deep_same (tp (app_old (app_old q2))) (tp at_new) s
end Lw

set_option Elab.async false
set_option linter.all false
set_option maxRecDepth 100000
set_option maxHeartbeats 2000000
namespace Lw
open PySem PySem.Spec PyProof.Rows L2 Mi
def nsR : Str × Str × Str := ("NoSuch", "value", "nothing so called")
def tmR : Str × Str × Str := ("TooMany", "most", "too many")
def rowsB : List (Str × Str × Str) := [v0, v1, nsR]
def allR : List (Str × Str × Str) := rowsV ++ rowsP ++ [nsR, tmR]
abbrev valV (v : D) (p : Str × Str × Str) : D := .exv p.1 p.2.1 v p.2.2
/-- no message holds the text z -/
def noText (z : Str) : Bool := allR.all fun p => vcs.contains p.1 && (Builtin.Str.occurrences p.2.2 z 0 p.2.2.length 1).isEmpty
theorem text_of {z : Str} (q : noText z = true) {v : D} {p : Str × Str × Str} (hp : p ∈ allR) {fa fb : Fe} {env : En} {h : Hd} (ea : fa env h = .ok (.str z) h) (eb : fb env h = .ok (valV v p) h) :
    tOf (eOp gInS fa (eCall (gStr vcs) (aCons fb aNil))) env h = .ok false h := by
  obtain ⟨q1, q2⟩ := He.ba (List.all_eq_true.mp q p hp)
  have s : gStr vcs [valV v p] h = .ok (.str p.2.2) h := by
    show (if vcs.contains p.1 = true then Res.ok (D.str p.2.2) h else .no) = _
    rw [q1]
    rfl
  refine tOf_ok ((op_ok ea ((call_ok (cons_ok eb rfl)).trans s)).trans ?_)
  show Res.ok (D.bl (!(Builtin.Str.occurrences p.2.2 z 0 p.2.2.length 1).isEmpty)) h = _
  rw [q2]
  rfl
theorem str_thing {z : Str} {h : Hd} : gStr vcs [.str z] h = .ok (.str z) h := rfl
theorem str_int {i : Int} (hi : i.natAbs.log2 < 1920) {h : Hd} : gStr vcs [.int i] h = .ok (.str (toString i)) h := by
  show (if i.natAbs.log2 < 1920 then Res.ok (D.str (toString i)) h else .no) = _
  rw [if_pos hi]
noncomputable def body5 : Fs := sSeq (sAsg (eOp gAdd (eLc (iOf (eOp gAdd (eCall s__law_valued (aCons (eVar 7) aNil)) (eCall s__law_placed (aCons (eVar 7) aNil)))) (gUnp 3 (gsCons (gSet 10) (gsCons (gSet 11) (gsCons (gSet 12) gsNil)))) tYesD (eVar 10) [10, 11, 12]) (eLst (aCons (eMk "NoSuch" "value" "nothing so called" (eVar 7)) (aCons (eMk "TooMany" "most" "too many" (eVar 7)) aNil)))) (gSet 8))
    (sIf (tOf (eOp gNe (eLc (iOf (eVar 8)) (gSet 9) (tOf (eOp gInS (eCall (gStr vcs) (aCons (eVar 7) aNil)) (eCall (gStr vcs) (aCons (eVar 9) aNil)))) (eVar 9) [9]) (eLst aNil))) (sRet (eC (.bl false))) sNil)
abbrev E5 (a b c d e f g m : Option D) : En := [some (.ref 0), a, b, c, d, e, f, g, m, none, none, none, none]
theorem turn5 {v : D} {z : Str} (nl : ∀ n, v ≠ .lam n) (q : noText z = true) (st : ∀ h, gStr vcs [v] h = .ok (.str z) h) (a b c d e f g m : Option D) (h : Hd) : ∃ m' h', body5 (E5 a b c d e f (some v) m) h = .nx (E5 a b c d e f (some v) m') h' := by
  let en : En := E5 a b c d e f (some v) m
  have ev : ∀ h, eVar 7 en h = .ok v h := fun h => var_ok nl rfl
  obtain ⟨r1, h1, e1, k1, q1⟩ := valued_ok nl h
  obtain ⟨r2, h2, e2, k2, q2⟩ := placed_ok nl h1
  have c1 : eOp gAdd (eCall s__law_valued (aCons (eVar 7) aNil)) (eCall s__law_placed (aCons (eVar 7) aNil)) en h = .ok (.ref h2.length) (h2 ++ [.lst ((rowsV ++ rowsP).map (row v))]) := by
    rw [List.map_append]
    exact (op_ok ((call_ok (cons_ok (ev h) rfl)).trans e1) ((call_ok (cons_ok (ev h1) rfl)).trans e2)).trans (cat_lst (k2.at_ _ _ (by simp) q1) q2 (by rw [List.length_map, List.length_map]; decide))
  let h3 : Hd := h2 ++ [.lst ((rowsV ++ rowsP).map (row v))]
  obtain ⟨h4, e4, k4, q4⟩ := lc_ref (tg := gUnp 3 (gsCons (gSet 10) (gsCons (gSet 11) (gsCons (gSet 12) gsNil)))) (tst := tYesD) (el := eVar 10) (env := en) (h := h3) (a := h2.length) (xs := (rowsV ++ rowsP).map (row v)) (fun x => match x with
      | .tup (y :: _) => [y]
      | _ => []) at_new (fun x hx h1 _ => by
    obtain ⟨p, hp, rfl⟩ := List.mem_map.mp hx
    exact ⟨h1, rfl, Kp.refl⟩) (by rw [List.length_map]; decide)
  have c2 : eLc (iOf (eOp gAdd (eCall s__law_valued (aCons (eVar 7) aNil)) (eCall s__law_placed (aCons (eVar 7) aNil)))) (gUnp 3 (gsCons (gSet 10) (gsCons (gSet 11) (gsCons (gSet 12) gsNil)))) tYesD (eVar 10) [10, 11, 12] en h = .ok (.ref h3.length) h4 :=
    (eLc_ok (iOf_ref c1 at_new)).trans e4
  have q5 : h4[h3.length]? = some (.lst ((rowsV ++ rowsP).map (valV v))) := by
    rw [q4, List.flatMap_map]
    exact congrArg (fun l => some (Ob.lst l)) (by
      generalize rowsV ++ rowsP = l
      induction l with
      | nil => rfl
      | cons p r ih => rw [List.flatMap_cons, ih]; rfl)
  let h5 : Hd := h4 ++ [.lst ([nsR, tmR].map (valV v))]
  let h6 : Hd := h5 ++ [.lst (allR.map (valV v))]
  have c3 : eLst (aCons (eMk "NoSuch" "value" "nothing so called" (eVar 7)) (aCons (eMk "TooMany" "most" "too many" (eVar 7)) aNil)) en h4 = .ok (.ref h4.length) h5 :=
    lst_ok (cons_ok (mk_ok (ev h4)) (cons_ok (mk_ok (ev h4)) rfl)) (by simp)
  have c4 : eOp gAdd (eLc (iOf (eOp gAdd (eCall s__law_valued (aCons (eVar 7) aNil)) (eCall s__law_placed (aCons (eVar 7) aNil)))) (gUnp 3 (gsCons (gSet 10) (gsCons (gSet 11) (gsCons (gSet 12) gsNil)))) tYesD (eVar 10) [10, 11, 12]) (eLst (aCons (eMk "NoSuch" "value" "nothing so called" (eVar 7)) (aCons (eMk "TooMany" "most" "too many" (eVar 7)) aNil))) en h = .ok (.ref h5.length) h6 := by
    refine (op_ok c2 c3).trans ?_
    show _ = Res.ok (D.ref h5.length) (h5 ++ [.lst ((rowsV ++ rowsP ++ [nsR, tmR]).map (valV v))])
    rw [List.map_append (l₁ := rowsV ++ rowsP)]
    exact cat_lst (app_old q5) at_new (by rw [List.length_map, List.length_map]; decide)
  let en6 : En := E5 a b c d e f (some v) (some (.ref h5.length))
  have s1 : sAsg (eOp gAdd (eLc (iOf (eOp gAdd (eCall s__law_valued (aCons (eVar 7) aNil)) (eCall s__law_placed (aCons (eVar 7) aNil)))) (gUnp 3 (gsCons (gSet 10) (gsCons (gSet 11) (gsCons (gSet 12) gsNil)))) tYesD (eVar 10) [10, 11, 12]) (eLst (aCons (eMk "NoSuch" "value" "nothing so called" (eVar 7)) (aCons (eMk "TooMany" "most" "too many" (eVar 7)) aNil)))) (gSet 8) en h = .nx en6 h6 :=
    asg_ok (i := 8) c4 (by simp [en])
  obtain ⟨h7, e7, k7, q7⟩ := lc_ref (tg := gSet 9) (tst := tOf (eOp gInS (eCall (gStr vcs) (aCons (eVar 7) aNil)) (eCall (gStr vcs) (aCons (eVar 9) aNil)))) (el := eVar 9) (env := en6) (h := h6) (a := h5.length) (xs := allR.map (valV v)) (fun _ => []) at_new (fun x hx h1 _ => by
    obtain ⟨p, hp, rfl⟩ := List.mem_map.mp hx
    refine ⟨h1, ?_, Kp.refl⟩
    have t := text_of q (v := v) hp (fa := eCall (gStr vcs) (aCons (eVar 7) aNil)) (fb := eVar 9) (env := en6.set 9 (some (valV v p))) (h := h1) ((call_ok (ds := [v]) (cons_ok (var_ok nl rfl) rfl)).trans (st h1)) (var_ok (v := valV v p) (by intro n z; cases z) rfl)
    unfold turnC gSet
    rw [if_pos (by simp [en6])]
    show (match tOf _ (en6.set 9 (some (valV v p))) h1 with
      | .ok false h2 => Res.ok [] h2
      | .ok true h2 => _
      | _ => .no) = _
    rw [t]) (by rw [List.length_map]; decide)
  have q8 : h7[h6.length]? = some (.lst []) := by
    rw [q7]
    exact congrArg (fun l => some (Ob.lst l)) (by
      generalize allR.map (valV v) = l
      induction l with
      | nil => rfl
      | cons p r ih => rw [List.flatMap_cons, ih]; rfl)
  have c5 : eLc (iOf (eVar 8)) (gSet 9) (tOf (eOp gInS (eCall (gStr vcs) (aCons (eVar 7) aNil)) (eCall (gStr vcs) (aCons (eVar 9) aNil)))) (eVar 9) [9] en6 h6 = .ok (.ref h6.length) h7 :=
    (eLc_ok (iOf_ref (a := h5.length) rfl at_new)).trans e7
  have t5 : tOf (eOp gNe (eLc (iOf (eVar 8)) (gSet 9) (tOf (eOp gInS (eCall (gStr vcs) (aCons (eVar 7) aNil)) (eCall (gStr vcs) (aCons (eVar 9) aNil)))) (eVar 9) [9]) (eLst aNil)) en6 h6 = .ok false (h7 ++ [.lst []]) :=
    tOf_ok ((op_ok c5 (lst_ok (xs := []) rfl (by simp))).trans (ne_strs (ws := []) (app_old q8) at_new rfl))
  exact ⟨some (.ref h5.length), h7 ++ [.lst []], (seq_nx s1).trans ((if_no t5).trans rfl)⟩
theorem law_true (ns : List Int) : ∃ h', s_law [.ref 0] [.fro (ns.map .int)] = .ok (.bl true) h' := by
  obtain ⟨h1, a, b, c, d, e, s0⟩ := law0 ns
  let h2 : Hd := h1 ++ [.lst (rowsB.map nonV)]
  have s1 : b_law_1 (E0 a b c d e) h1 = .nx (E5 a b c d (some (.ref h1.length)) none none none) h2 := asg_ok (i := 5) (lst_ok rfl (by simp [rowsB])) (by simp)
  let h3 : Hd := h2 ++ [.lst ((rowsP.take 7).map nonV)]
  have s2 : b_law_2 (E5 a b c d (some (.ref h1.length)) none none none) h2 = .nx (E5 a b c d (some (.ref h1.length)) (some (.ref h2.length)) none none) h3 := asg_ok (i := 6) (lst_ok rfl (by simp [rowsP])) (by simp)
  let h4 : Hd := h3 ++ [.lst ((rowsP.drop 7).map nonV)]
  let h5 : Hd := h4 ++ [.lst (rowsP.map nonV)]
  let en : En := E5 a b c d (some (.ref h1.length)) (some (.ref h4.length)) none none
  have s3 : b_law_3 (E5 a b c d (some (.ref h1.length)) (some (.ref h2.length)) none none) h3 = .nx en h5 :=
    asg_ok (i := 6) ((op_ok (x := .ref h2.length) rfl (lst_ok (xs := (rowsP.drop 7).map nonV) rfl (by simp [rowsP]))).trans (cat_lst (xs := (rowsP.take 7).map nonV) (app_old at_new) at_new (by simp [rowsP]))) (by simp)
  have q1 : h5[h1.length]? = some (.lst (rowsB.map nonV)) := app_old (app_old (app_old at_new))
  have q2 : h5[h4.length]? = some (.lst (rowsP.map nonV)) := at_new
  have hB : ∀ p ∈ rowsB, p.2.1 = "value" ∧ fcs_value.contains p.1 = true := by
    have z : (rowsB.all fun p => decide (p.2.1 = "value") && fcs_value.contains p.1) = true := by decide +kernel
    intro p hp
    obtain ⟨z3, z4⟩ := He.ba (List.all_eq_true.mp z p hp)
    exact ⟨of_decide_eq_true z3, z4⟩
  have hP : ∀ p ∈ rowsP, p.2.1 = "place" ∧ fcs_place.contains p.1 = true := by
    have z : (rowsP.all fun p => decide (p.2.1 = "place") && fcs_place.contains p.1) = true := by decide +kernel
    intro p hp
    obtain ⟨z3, z4⟩ := He.ba (List.all_eq_true.mp z p hp)
    exact ⟨of_decide_eq_true z3, z4⟩
  obtain ⟨h6, t1, k6⟩ := nons_ok (i := 5) (rows := rowsB) hB (by decide) (env := en) (by simp [en]) rfl ⟨h1.length, rfl, fun _ => rfl⟩ (h := h5) (fun r er => by
    have z : some (some (D.ref h1.length)) = some (some (D.ref r)) := er
    cases z
    exact q1) 3 rfl (rng_small (by omega) (by omega)) (by decide +kernel)
  obtain ⟨h7, t2, k7⟩ := nons_ok (i := 6) (rows := rowsP) hP (by decide) (env := en) (by simp [en]) rfl ⟨h4.length, rfl, fun _ => rfl⟩ (h := h6) (fun r er => by
    have z : some (some (D.ref h4.length)) = some (some (D.ref r)) := er
    cases z
    exact k6.at_ _ _ (by simp) q2) 15 rfl (rng_small (by omega) (by omega)) (by decide +kernel)
  have s4 : b_law_4 en h5 = .nx en h7 := (if_no (or_no t1 t2)).trans rfl
  have c5 : eTup (aCons (eC (.str "zqzq")) (aCons (eOp gPow (eC (.int 10)) (eC (.int 30))) (aCons (eC (.int 70707)) aNil))) en h7 = .ok (.tup [.str "zqzq", .int ((10 : Int) ^ 30), .int 70707]) h7 :=
    tup_ok (cons_ok rfl (cons_ok ((op_ok (x := .int 10) (y := .int 30) rfl rfl).trans rfl) (cons_ok rfl rfl))) (by simp)
  obtain ⟨env', h8, e8, ⟨x1, x2, x3, x4, x5, x6, x7, x8, rfl⟩⟩ := for_tup (tg := gSet 7) (body := body5) (env := en) (h := h7) (xs := [.str "zqzq", .int ((10 : Int) ^ 30), .int 70707]) (fun env _ => ∃ a b c d e f g m, env = E5 a b c d e f g m) ⟨_, _, _, _, _, _, _, _, rfl⟩ (fun v hv env1 g1 j => by
    obtain ⟨x1, x2, x3, x4, x5, x6, x7, x8, rfl⟩ := j
    have key : ∃ z, (∀ n, v ≠ .lam n) ∧ noText z = true ∧ ∀ h, gStr vcs [v] h = .ok (.str z) h := by
      simp only [List.mem_cons, List.mem_nil_iff, or_false] at hv
      rcases hv with rfl | rfl | rfl
      · exact ⟨_, (by intro n z; cases z), by decide +kernel, fun h => str_thing⟩
      · exact ⟨_, (by intro n z; cases z), by decide +kernel, fun h => str_int (by decide +kernel)⟩
      · exact ⟨_, (by intro n z; cases z), by decide +kernel, fun h => str_int (by decide +kernel)⟩
    obtain ⟨z, nl, q, st⟩ := key
    obtain ⟨m', g2, e2⟩ := turn5 nl q st x1 x2 x3 x4 x5 x6 x7 x8 g1
    refine ⟨E5 x1 x2 x3 x4 x5 x6 (some v) m', g2, ?_, ⟨_, _, _, _, _, _, _, _, rfl⟩⟩
    show (match body5 (E5 x1 x2 x3 x4 x5 x6 (some v) x8) g1 with
      | .ct env2 h2 => SRes.nx env2 h2
      | r => r) = _
    rw [e2]) (by simp)
  have s5 : b_law_5 en h7 = .nx (E5 x1 x2 x3 x4 x5 x6 x7 x8) h8 := (sFor_ok (iOf_tup c5)).trans e8
  refine ⟨h8, run_rt (E0 none none none none none) ?_⟩
  unfold b_law
  exact (seq_nx s0).trans ((seq_nx s1).trans ((seq_nx s2).trans ((seq_nx s3).trans ((seq_nx s4).trans ((seq_nx s5).trans rfl)))))
end Lw

set_option Elab.async false
set_option linter.all false
set_option maxRecDepth 100000
set_option maxHeartbeats 0
namespace Lw
open PySem PySem.Spec PyProof.Rows L2 Mi
abbrev R : PySem.W.OpenRow := PySem.W.OpenLaw.row PySem.Challenge.rw_alwayswhole_k99_errors_by_hand
abbrev hk : PySem.W.Hook := hookU 6 fs fn tf
def ob (s : PySem.W.SharedT) : He.AlD × Bool := obsU 6 fs fn tf (HandSHeadRun.getT s)
theorem ob_eq (s : PySem.W.SharedT) : ob s = hk.obs s.abs := obsU_eq (HandSHeadRun.getT_eq s)
def loose : List PySem.Str := (["WholeError", "BadNumber", "BadPoint", "BadWeb", "BadLaurent", "BadSeed", "BadRow", "BadType", "BadSurface", "BadFrieze", "BadPattern", "BadCartan", "BadRoot", "BadTriple", "BadMap", "BadText", "BadPaper", "BadDeed", "TooMany", "NoSuch"] : List PySem.Str) ++ (["_law_mixed", "_law_draw", "_law_digit", "_law_kinds", "_law_valued", "_law_placed", "_law_right"] : List PySem.Str)
theorem run (w : World) : HandSHeadRun.RunEq R (PySem.W.view R.prog [29]) hk ob 6000 loose w := by
  intro os
  kernel_rfl
end Lw

set_option Elab.async false
set_option linter.all false
set_option maxRecDepth 100000
set_option maxHeartbeats 0
namespace Lw
open PySem PySem.Spec PyProof.Rows L2 Mi
theorem ends {P : Program} {w : World} {K : PySem.W.Frag} {h : Heap} {mg : Str → Option Value} {f : Addr} (X : K.In h) (z : obsK fs fn K = He.valD fn) (nd : (tf.map fun p => (He.cT K p).2).Nodup) (G : h.Ns mainGlobals mg) (hfa : mg ("law" : Str) = some (.ref f)) :
    ∃ fd : FuncData, (∀ (s : Shared) (u : Value), BindsTo s fd ⟨[u], []⟩ [("script", u)]) ∧ ∀ base : Heap, K.In base → base.Ns mainGlobals mg → (∀ p ∈ tf, LamX.TabB base mg (He.cT K p).1 (He.cT K p).2) → FnG P w K mg base (L2.CX P w) 3 f fd ["script"] (spD (rx K mg (tabsOf K tf)) 1 s_law) := by
  have e1 : PySem.W.nsIn K mainGlobals "law" = some (some (.ref (He.ga K "law"))) := He.eqO_ok (fact z 78)
  have e := hfa.symm.trans (PySem.W.mg_of X G e1)
  cases e
  obtain ⟨fd, F⟩ := def_ z 7 (d := d_law)
  have b := FunD.bindsA (ps := ["script"]) F fun _ _ _ _ _ _ us hl => match us, hl with | [_], _ => rfl
  refine ⟨fd, fun s u => b s [u] rfl, fun base _ _ tb => ?_⟩
  have c := mkF X G z nd tb
  obtain ⟨fd', F', hF⟩ := (ok_law (P := P) (w := w) (base := base) c).ex
  have e2 : fd = fd' := by
    obtain ⟨_, _, _, _, _, _, _, _, _, _, rfl, l1, _, _, _⟩ := F.ex
    obtain ⟨_, _, _, _, _, _, _, _, _, _, rfl, l2, _, _, _⟩ := F'.ex
    rw [l1] at l2
    cases l2
    rfl
  subst e2
  exact hF
end Lw
open PySem PySem.W PySem.Calls PyProof.Rows
theorem final (hm : ∀ ns : List Int, ns.length ≤ 63 → (∀ z ∈ ns, Builtin.Int.intBits z ≤ 1048576) → ∃ h', Lw.s_law [.ref 0] [.fro (ns.map .int)] = .ok (.bl true) h') : PySem.Challenge.rw_alwayswhole_k99_errors_by_hand.Holds := by
  w_on; o_law
  refine HandSHeadRun.head_any (r := OpenLaw.row PySem.Challenge.rw_alwayswhole_k99_errors_by_hand) (q := view (OpenLaw.row PySem.Challenge.rw_alwayswhole_k99_errors_by_hand).prog [29]) (H := Lw.hk) (ob := Lw.ob) (M := 6000) (loose := Lw.loose) (d := HandSHeadRun.topDef (OpenLaw.row PySem.Challenge.rw_alwayswhole_k99_errors_by_hand).prog 29) (kwd := []) Lw.ob_eq
    (by kernel_rfl) (fun s => by kernel_rfl) Lw.run (by kernel_rfl) (by kernel_rfl) (by kernel_rfl) (by rfl) (by first | assumption | decide +kernel) (by decide +kernel) ⟨rfl, rfl, rfl, rfl, rfl, by decide +kernel⟩ ?hw ?hc
  case hw => w_witness2
  case hc =>
    refine Mi.walk_ofT (l := PySem.Challenge.rw_alwayswhole_k99_errors_by_hand) (n := 63) (k := 3) (x := "script") rfl (by decide) (by kernel_rfl) ⟨⟨rfl, by decide, by decide⟩, rfl⟩ ?F
    intro w mg fa h K X z nd G hmg0
    have hmg : mg ("law" : PySem.Str) = some (.ref fa) := by
      have e : (HandSHeadRun.topDef (OpenLaw.row PySem.Challenge.rw_alwayswhole_k99_errors_by_hand).prog 29).name = ("law" : PySem.Str) := by kernel_rfl
      rw [← e]
      exact hmg0
    obtain ⟨fd, hb, hF⟩ := Lw.ends (P := (PySem.Challenge.rw_alwayswhole_k99_errors_by_hand).prog) (w := w) X z nd G hmg
    exact ⟨fd, Lw.s_law, hb, hm, hF⟩

set_option maxHeartbeats 0
theorem PySem.Challenge.cw_alwayswhole_k99_errors_by_hand_holds : PySem.Challenge.rw_alwayswhole_k99_errors_by_hand.Holds := by
  exact final fun ns _ _ => Lw.law_true ns
