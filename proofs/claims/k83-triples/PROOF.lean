import PyProof.Rows.All
import Wide.All
import OpenK.AllK
import Wide.FinOn
import HandS.ForMost
import HandS.Exc
import HandS.TryOnly
import HandS.ExcInit
import HandS.CallSlots
import HandS.Walk
import HandS.Defaults
import HandS.Lambda
import HandS.Style
import KE.GoesEnum
import KE.GoesMore
import HandS.HeadHook1
import HandS.HeadHook2
import KE.KExcInit
import HandS.Small
import HandS.TupAny
import HandS.TupMul
import HandS.TupLe
import HandS.Wide
import HandS.Deep
import HandS.IsInst
import HandS.Dict
import HandS.SortInts
import HandS.RaiseMore
import HandS.Text
import HandS.Codes
import HandS.CallLocal
import HandS.Ends
import HandS.EndBits
import HandS.HeadEnd
import HandS.Words
import HandS.Head0
import HandS.Head1
import HandS.Head2
import PyProof.StrBlockL
import PyProof.Rows.RegStrFacts
import HandS.TryMany
import HandS.HeadHook4
import HandS.EndTab
import KE.KNestM
import KE.KExcStr
import KE.KExcIs
import HandS.ExcValue
import HandS.Gcd
import HandS.Zip
import HandS.Iter
import KE.SortKeyHeap
import PySem.Challenge.RW_alwayswhole_k83_whole_triples_and_their
import Lean
import KE.KStateDown
set_option Elab.async false
set_option linter.all false
set_option maxRecDepth 100000
set_option maxHeartbeats 1000000
namespace Mi
open PySem PySem.Spec PyProof.Rows L2
abbrev St := L2.St

/-! ### values as data -/
inductive D where
  | non | bl (b : Bool) | int (i : Int) | str (x : Str) | tup (xs : List D) | ref (n : Nat) | gl (x : Str) | ty (n : String) | exc (n : Nat) (c f : Str) (v : D) | lam (n : Nat) | exv (c f : Str) (v : D) (m : Str)
inductive Ob where
  | lst (xs : List D) | fro (xs : List D) | dic (kvs : List (Key × D))
structure Exn where
  c : Str
  f : Str
  v : D
abbrev Hd := List Ob
abbrev En := List (Option D)
inductive Res (A : Type) where
  | ok (a : A) (h : Hd) | ex (e : Exn) (h : Hd) | no
@[simp] def Res.bind {A B : Type} (r : Res A) (f : A → Hd → Res B) : Res B := match r with
  | .ok a h => f a h
  | .ex e h => .ex e h
  | .no => .no
def Stable : HO → Prop
  | .tup _ => True
  | .xd _ => True
  | .frz _ _ => True
  | .ext _ => True
  | _ => False
/-- nothing is tracked at a, or a table -/
def NT (H : Hp) (a : Addr) : Prop := ∀ o, H a = some o → ∃ ps, o = .tbl ps
structure Ext (α : List Addr) (H : Hp) (α' : List Addr) (H' : Hp) : Prop where
  pre : ∃ β, α' = α ++ β ∧ ∀ b ∈ β, NT H b
  st : ∀ a o, H a = some o → Stable o → H' a = some o
  fr : ∀ a o, H a = some o → a ∉ α → (∀ ps, o ≠ .tbl ps) → H' a = some o
  dom : ∀ a, NT H' a → NT H a
theorem Ext.refl {α : List Addr} {H : Hp} : Ext α H α H := ⟨⟨[], by simp, by simp⟩, fun _ _ h _ => h, fun _ _ h _ _ => h, fun _ h => h⟩
theorem Ext.trans {α α1 α2 : List Addr} {H H1 H2 : Hp} (a : Ext α H α1 H1) (b : Ext α1 H1 α2 H2) : Ext α H α2 H2 := by
  obtain ⟨β, e, f⟩ := a.pre
  obtain ⟨γ, e', f'⟩ := b.pre
  refine ⟨⟨β ++ γ, by rw [e', e, List.append_assoc], fun x hx => ?_⟩, fun x o h s => b.st x o (a.st x o h s) s, fun x o h n t => b.fr x o (a.fr x o h n t) ?_ t, fun x h => a.dom x (b.dom x h)⟩
  · rcases List.mem_append.mp hx with q | q
    · exact f x q
    · exact a.dom x (f' x q)
  · rw [e]
    intro z
    rcases List.mem_append.mp z with q | q
    · exact n q
    · obtain ⟨ps, z⟩ := f x q o h
      exact t ps z
theorem Ext.get {α α' : List Addr} {H H' : Hp} (e : Ext α H α' H') {n : Nat} {a : Addr} (h : α[n]? = some a) : α'[n]? = some a := by
  obtain ⟨β, e, _⟩ := e.pre
  rw [e, List.getElem?_append_left (List.getElem?_eq_some_iff.mp h).1]
  exact h
structure Rx where
  K : PySem.W.Frag
  mg : Str → Option Value
  xa : Nat → Option (Addr × Value × Addr)
  la : Nat → Option Addr
  T : List (Addr × Str)
  kept : List Addr → Hp → Prop
  mono : ∀ {α α' : List Addr} {H H' : Hp}, Ext α H α' H' → kept α H → kept α' H'
/-- an exception object that was made, not raised: its class, its dict, its text -/
def ExV (cls : Value) (a d t : Addr) : HO := .ext fun h => ∃ (oe : Obj) (vs : Array Value), h.get? a = some oe ∧ oe.cls = cls ∧ oe.dict = some d ∧ oe.data = .fields vs ∧ vs[0]? = some (.ref t) ∧ vs[1]? = some .none

mutual
def RelD (R : Rx) (α : List Addr) (H : Hp) : D → V → Prop
  | .non, v => v = .non
  | .bl b, v => v = .bl b
  | .int i, v => v = .int i
  | .str x, v => v = .str x
  | .tup xs, v => ∃ a vs, v = .ref a ∧ SqT R.K H a vs ∧ RelDs R α H xs vs
  | .ref n, v => ∃ a, α[n]? = some a ∧ v = .ref a
  | .gl x, v => ∃ a, R.mg x = some (.ref a) ∧ v = .ref a
  | .ty n, v => v = .ty n
  | .exc n c f d, v => ∀ a cls dd, R.xa n = some (a, cls, dd) → v = .ref a ∧ ∃ C v', R.mg c = some (.ref C) ∧ cls = .ref C ∧ H dd = some (.xd [(f, v')]) ∧ RelD R α H d v'
  | .lam _, _ => False
  | .exv c f d m, v => ∃ a dd t C v', v = .ref a ∧ R.mg c = some (.ref C) ∧ H a = some (ExV (.ref C) a dd t) ∧ H t = some (.tup [.str m]) ∧ H dd = some (.xd [(f, v')]) ∧ RelD R α H d v'
def RelDs (R : Rx) (α : List Addr) (H : Hp) : List D → List V → Prop
  | [], vs => vs = []
  | x :: xs, vs => ∃ v r, vs = v :: r ∧ RelD R α H x v ∧ RelDs R α H xs r
end
def RelKs (R : Rx) (α : List Addr) (H : Hp) : List (Key × D) → List (Key × V) → Prop
  | [], vs => vs = []
  | (k, x) :: xs, vs => ∃ v r, vs = (k, v) :: r ∧ RelD R α H x v ∧ RelKs R α H xs r
theorem Ext.sqT {K : PySem.W.Frag} {α α' : List Addr} {H H' : Hp} (e : Ext α H α' H') {a : Addr} {vs : List V} (h : SqT K H a vs) : SqT K H' a vs := by
  rcases h with (h | ⟨o, h⟩) | h
  · exact .inl (.inl (e.st _ _ h trivial))
  · exact .inl (.inr ⟨o, e.st _ _ h trivial⟩)
  · exact .inr h
section
variable {R : Rx} {α α' : List Addr} {H H' : Hp}
mutual
theorem RelD.ext (e : Ext α H α' H') : ∀ (d : D) (v : V), RelD R α H d v → RelD R α' H' d v
  | .non, _, h => h
  | .bl _, _, h => h
  | .int _, _, h => h
  | .str _, _, h => h
  | .tup xs, v, h => by
    unfold RelD at h ⊢
    obtain ⟨a, vs, h1, h2, h3⟩ := h
    exact ⟨a, vs, h1, e.sqT h2, RelDs.ext e xs vs h3⟩
  | .ref n, v, h => by
    unfold RelD at h ⊢
    obtain ⟨a, h1, h2⟩ := h
    exact ⟨a, e.get h1, h2⟩
  | .gl _, _, h => h
  | .ty _, _, h => h
  | .exc n c f d, v, h => by
    unfold RelD at h ⊢
    intro a cls dd hx
    obtain ⟨h1, C, v', h2, h3, h4, h5⟩ := h a cls dd hx
    exact ⟨h1, C, v', h2, h3, e.st _ _ h4 trivial, RelD.ext e d v' h5⟩
  | .lam _, _, h => by
    unfold RelD at h
    exact h.elim
  | .exv c f d m, v, h => by
    unfold RelD at h ⊢
    obtain ⟨a, dd, t, C, v', h1, h2, h3, h6, h4, h5⟩ := h
    exact ⟨a, dd, t, C, v', h1, h2, e.st _ _ h3 trivial, e.st _ _ h6 trivial, e.st _ _ h4 trivial, RelD.ext e d v' h5⟩
theorem RelDs.ext (e : Ext α H α' H') : ∀ (ds : List D) (vs : List V), RelDs R α H ds vs → RelDs R α' H' ds vs
  | [], _, h => h
  | x :: xs, vs, h => by
    unfold RelDs at h ⊢
    obtain ⟨v, r, h1, h2, h3⟩ := h
    exact ⟨v, r, h1, RelD.ext e x v h2, RelDs.ext e xs r h3⟩
end
theorem RelKs.ext (e : Ext α H α' H') : ∀ (ds : List (Key × D)) (vs : List (Key × V)), RelKs R α H ds vs → RelKs R α' H' ds vs
  | [], _, h => h
  | (k, x) :: xs, vs, h => by
    unfold RelKs at h ⊢
    obtain ⟨v, r, h1, h2, h3⟩ := h
    exact ⟨v, r, h1, RelD.ext e x v h2, RelKs.ext e xs r h3⟩
end
/-! ### lists of related things -/
section
variable {R : Rx} {α : List Addr} {H : Hp}
theorem RelDs.nil : RelDs R α H [] [] := by unfold RelDs; rfl
theorem RelDs.cons {x : D} {xs : List D} {v : V} {vs : List V} (h : RelD R α H x v) (t : RelDs R α H xs vs) : RelDs R α H (x :: xs) (v :: vs) := by
  unfold RelDs; exact ⟨v, vs, rfl, h, t⟩
theorem RelDs.nil_inv {vs : List V} (h : RelDs R α H [] vs) : vs = [] := by unfold RelDs at h; exact h
theorem RelDs.cons_inv {x : D} {xs : List D} {vs : List V} (h : RelDs R α H (x :: xs) vs) : ∃ v r, vs = v :: r ∧ RelD R α H x v ∧ RelDs R α H xs r := by unfold RelDs at h; exact h
theorem RelDs.length : ∀ {ds : List D} {vs : List V}, RelDs R α H ds vs → ds.length = vs.length
  | [], _, h => by rw [h.nil_inv]; rfl
  | x :: xs, vs, h => by
    obtain ⟨v, r, e, _, t⟩ := h.cons_inv
    rw [e, List.length_cons, List.length_cons, t.length]
theorem RelDs.get : ∀ {ds : List D} {vs : List V} {i : Nat} {d : D}, RelDs R α H ds vs → ds[i]? = some d → ∃ v, vs[i]? = some v ∧ RelD R α H d v
  | [], _, _, _, _, e => by simp at e
  | x :: xs, vs, 0, d, h, e => by
    obtain ⟨v, r, e1, h1, _⟩ := h.cons_inv
    simp at e; subst e
    exact ⟨v, by rw [e1]; rfl, h1⟩
  | x :: xs, vs, i + 1, d, h, e => by
    obtain ⟨v, r, e1, _, t⟩ := h.cons_inv
    obtain ⟨u, h1, h2⟩ := t.get (i := i) (d := d) (by simpa using e)
    exact ⟨u, by rw [e1]; simpa using h1, h2⟩
theorem RelDs.append : ∀ {xs ys : List D} {vs ws : List V}, RelDs R α H xs vs → RelDs R α H ys ws → RelDs R α H (xs ++ ys) (vs ++ ws)
  | [], _, _, _, h, h' => by rw [h.nil_inv]; exact h'
  | x :: xs, ys, vs, ws, h, h' => by
    obtain ⟨v, r, e, h1, t⟩ := h.cons_inv
    rw [e]
    exact .cons h1 (t.append h')
theorem RelDs.set : ∀ {xs : List D} {vs : List V} {d : D} {v : V} (i : Nat), RelDs R α H xs vs → RelD R α H d v → RelDs R α H (xs.set i d) (vs.set i v)
  | [], _, _, _, _, h, _ => by rw [h.nil_inv]; exact .nil
  | x :: xs, vs, d, v, 0, h, hd => by
    obtain ⟨u, r, e, h1, t⟩ := h.cons_inv
    rw [e]
    exact .cons hd t
  | x :: xs, vs, d, v, i + 1, h, hd => by
    obtain ⟨u, r, e, h1, t⟩ := h.cons_inv
    rw [e]
    exact .cons h1 (t.set i hd)
theorem RelDs.take : ∀ {xs : List D} {vs : List V} (n : Nat), RelDs R α H xs vs → RelDs R α H (xs.take n) (vs.take n)
  | _, _, 0, _ => by simp; exact .nil
  | [], _, n + 1, h => by rw [h.nil_inv]; exact .nil
  | x :: xs, vs, n + 1, h => by
    obtain ⟨u, r, e, h1, t⟩ := h.cons_inv
    rw [e]
    exact .cons h1 (t.take n)
theorem RelDs.drop : ∀ {xs : List D} {vs : List V} (n : Nat), RelDs R α H xs vs → RelDs R α H (xs.drop n) (vs.drop n)
  | _, _, 0, h => h
  | [], _, n + 1, h => by rw [h.nil_inv]; exact .nil
  | x :: xs, vs, n + 1, h => by
    obtain ⟨u, r, e, h1, t⟩ := h.cons_inv
    rw [e]
    exact t.drop n
theorem RelDs.reverse : ∀ {xs : List D} {vs : List V}, RelDs R α H xs vs → RelDs R α H xs.reverse vs.reverse
  | [], _, h => by rw [h.nil_inv]; exact .nil
  | x :: xs, vs, h => by
    obtain ⟨u, r, e, h1, t⟩ := h.cons_inv
    rw [e, List.reverse_cons, List.reverse_cons]
    exact t.reverse.append (.cons h1 .nil)
theorem RelDs.eraseIdx : ∀ {xs : List D} {vs : List V} (i : Nat), RelDs R α H xs vs → RelDs R α H (xs.eraseIdx i) (vs.eraseIdx i)
  | [], _, _, h => by rw [h.nil_inv]; exact .nil
  | x :: xs, vs, 0, h => by
    obtain ⟨u, r, e, h1, t⟩ := h.cons_inv
    rw [e]
    exact t
  | x :: xs, vs, i + 1, h => by
    obtain ⟨u, r, e, h1, t⟩ := h.cons_inv
    rw [e]
    exact .cons h1 (t.eraseIdx i)
theorem RelDs.rep {xs : List D} {vs : List V} (h : RelDs R α H xs vs) : ∀ k : Nat, RelDs R α H (List.replicate k xs).flatten (List.replicate k vs).flatten
  | 0 => .nil
  | k + 1 => by
    rw [List.replicate_succ, List.replicate_succ, List.flatten_cons, List.flatten_cons]
    exact h.append (h.rep k)
theorem RelDs.one {d : D} {vs : List V} (h : RelDs R α H [d] vs) : ∃ v, vs = [v] ∧ RelD R α H d v := by
  obtain ⟨v, r, e, h1, t⟩ := h.cons_inv
  rw [t.nil_inv] at e
  exact ⟨v, e, h1⟩
theorem RelDs.two {d d' : D} {vs : List V} (h : RelDs R α H [d, d'] vs) : ∃ v v', vs = [v, v'] ∧ RelD R α H d v ∧ RelD R α H d' v' := by
  obtain ⟨v, r, e, h1, t⟩ := h.cons_inv
  obtain ⟨v', e', h2⟩ := t.one
  rw [e'] at e
  exact ⟨v, v', e, h1, h2⟩
theorem RelD.int_inv {i : Int} {v : V} (h : RelD R α H (.int i) v) : v = .int i := by unfold RelD at h; exact h
theorem RelD.bl_inv {i : Bool} {v : V} (h : RelD R α H (.bl i) v) : v = .bl i := by unfold RelD at h; exact h
theorem RelD.non_inv {v : V} (h : RelD R α H .non v) : v = .non := by unfold RelD at h; exact h
theorem RelD.str_inv {x : Str} {v : V} (h : RelD R α H (.str x) v) : v = .str x := by unfold RelD at h; exact h
theorem RelD.ty_inv {x : String} {v : V} (h : RelD R α H (.ty x) v) : v = .ty x := by unfold RelD at h; exact h
theorem RelD.tup_inv {xs : List D} {v : V} (h : RelD R α H (.tup xs) v) : ∃ a vs, v = .ref a ∧ SqT R.K H a vs ∧ RelDs R α H xs vs := by unfold RelD at h; exact h
theorem RelD.ref_inv {n : Nat} {v : V} (h : RelD R α H (.ref n) v) : ∃ a, α[n]? = some a ∧ v = .ref a := by unfold RelD at h; exact h
theorem RelD.gl_inv {x : Str} {v : V} (h : RelD R α H (.gl x) v) : ∃ a, R.mg x = some (.ref a) ∧ v = .ref a := by unfold RelD at h; exact h
theorem RelD.int {i : Int} : RelD R α H (.int i) (.int i) := by unfold RelD; rfl
theorem RelD.bl {i : Bool} : RelD R α H (.bl i) (.bl i) := by unfold RelD; rfl
theorem RelD.non : RelD R α H .non .non := by unfold RelD; rfl
theorem RelD.str {x : Str} : RelD R α H (.str x) (.str x) := by unfold RelD; rfl
theorem RelD.ty {x : String} : RelD R α H (.ty x) (.ty x) := by unfold RelD; rfl
theorem RelD.tup {xs : List D} {a : Addr} {vs : List V} (h : SqT R.K H a vs) (t : RelDs R α H xs vs) : RelD R α H (.tup xs) (.ref a) := by unfold RelD; exact ⟨a, vs, rfl, h, t⟩
theorem RelD.ref {n : Nat} {a : Addr} (h : α[n]? = some a) : RelD R α H (.ref n) (.ref a) := by unfold RelD; exact ⟨a, h, rfl⟩
theorem RelD.gl {x : Str} {a : Addr} (h : R.mg x = some (.ref a)) : RelD R α H (.gl x) (.ref a) := by unfold RelD; exact ⟨a, h, rfl⟩
end

/-! ### the heap -/
def RelO (R : Rx) (α : List Addr) (H : Hp) : Ob → Addr → Prop
  | .lst xs, a => ∃ vs, H a = some (.lst vs) ∧ RelDs R α H xs vs
  | .fro xs, a => ∃ vs ob, H a = some (.frz ob (.lst vs)) ∧ RelDs R α H xs vs
  | .dic kvs, a => ∃ vs, H a = some (.dK vs) ∧ RelKs R α H kvs vs
structure RH (R : Rx) (α : List Addr) (h : Hd) (H : Hp) : Prop where
  len : α.length = h.length
  nd : α.Nodup
  obj : ∀ (n : Nat) (o : Ob), h[n]? = some o → ∃ a, α[n]? = some a ∧ RelO R α H o a
  tab : LamX.Tabs R.T H
  kp : R.kept α H
/-- a slot may hold a lambda, no other place may -/
def RelS (R : Rx) (α : List Addr) (H : Hp) : D → V → Prop
  | .lam n, v => ∃ f, R.la n = some f ∧ v = .ref f
  | d, v => RelD R α H d v
theorem RelS.of {R : Rx} {α : List Addr} {H : Hp} {d : D} {v : V} (h : RelD R α H d v) : RelS R α H d v := by
  cases d <;> first | exact h | (unfold RelD at h; exact h.elim)
theorem RelS.to {R : Rx} {α : List Addr} {H : Hp} {d : D} {v : V} (h : RelS R α H d v) (n : ∀ m, d ≠ .lam m) : RelD R α H d v := by
  cases d <;> first | exact h | exact absurd rfl (n _)
theorem RelS.ext {R : Rx} {α α' : List Addr} {H H' : Hp} (e : Ext α H α' H') {d : D} {v : V} (h : RelS R α H d v) : RelS R α' H' d v := by
  cases d <;> first | exact h | exact RelS.of (RelD.ext e _ _ h)
def RelEnv (R : Rx) (α : List Addr) (H : Hp) (env : En) (σ : St) : Prop :=
  env.length = σ.length ∧ ∀ (i : Nat) (d : D), env[i]? = some (some d) → ∃ v, σ[i]? = some (some v) ∧ RelS R α H d v
section
variable {R : Rx} {α α' : List Addr} {H H' : Hp} {h : Hd} {env : En} {σ : St}
theorem RelEnv.ext (r : RelEnv R α H env σ) (e : Ext α H α' H') : RelEnv R α' H' env σ := ⟨r.1, fun i d q => by
  obtain ⟨v, h1, h2⟩ := r.2 i d q
  exact ⟨v, h1, h2.ext e⟩⟩
theorem RelEnv.set (r : RelEnv R α H env σ) {i : Nat} {d : D} {v : V} (hd : RelD R α H d v) : RelEnv R α H (env.set i (some d)) (σ.set i (some v)) := by
  refine ⟨by rw [List.length_set, List.length_set]; exact r.1, fun j d' q => ?_⟩
  by_cases hj : i = j
  · subst hj
    by_cases hi : i < env.length
    · rw [List.getElem?_set_self hi] at q
      cases q
      exact ⟨v, List.getElem?_set_self (by rw [← r.1]; exact hi), .of hd⟩
    · rw [List.getElem?_eq_none (by simpa using hi)] at q
      cases q
  · rw [List.getElem?_set_ne hj] at q
    obtain ⟨u, h1, h2⟩ := r.2 j d' q
    exact ⟨u, by rw [List.getElem?_set_ne hj]; exact h1, h2⟩
theorem RelEnv.clear (r : RelEnv R α H env σ) {i : Nat} : RelEnv R α H (env.set i none) (σ.set i none) := by
  refine ⟨by rw [List.length_set, List.length_set]; exact r.1, fun j d' q => ?_⟩
  by_cases hj : i = j
  · subst hj
    by_cases hi : i < env.length
    · rw [List.getElem?_set_self hi] at q
      cases q
    · rw [List.getElem?_eq_none (by simpa using hi)] at q
      cases q
  · rw [List.getElem?_set_ne hj] at q
    obtain ⟨u, h1, h2⟩ := r.2 j d' q
    exact ⟨u, by rw [List.getElem?_set_ne hj]; exact h1, h2⟩
theorem RelO.some {o : Ob} {a : Addr} (r : RelO R α H o a) : ∃ ho, H a = some ho := by
  cases o with
  | lst xs => obtain ⟨vs, e, _⟩ := r; exact ⟨_, e⟩
  | fro xs => obtain ⟨vs, ob, e, _⟩ := r; exact ⟨_, e⟩
  | dic kvs => obtain ⟨vs, e, _⟩ := r; exact ⟨_, e⟩
theorem RelO.ext {o : Ob} {a : Addr} (r : RelO R α H o a) (e : Ext α H α' H') (k : H' a = H a) : RelO R α' H' o a := by
  cases o with
  | lst xs => obtain ⟨vs, q, t⟩ := r; exact ⟨vs, k.trans q, RelDs.ext e _ _ t⟩
  | fro xs => obtain ⟨vs, ob, q, t⟩ := r; exact ⟨vs, ob, k.trans q, RelDs.ext e _ _ t⟩
  | dic kvs => obtain ⟨vs, q, t⟩ := r; exact ⟨vs, k.trans q, RelKs.ext e _ _ t⟩
theorem RH.at (r : RH R α h H) {n : Nat} {a : Addr} (e : α[n]? = some a) : ∃ o, h[n]? = some o ∧ RelO R α H o a := by
  have hn : n < α.length := (List.getElem?_eq_some_iff.mp e).1
  have hn' : n < h.length := by rw [← r.len]; exact hn
  obtain ⟨b, e1, e2⟩ := r.obj n h[n] (List.getElem?_eq_getElem hn')
  rw [e] at e1
  cases e1
  exact ⟨h[n], List.getElem?_eq_getElem hn', e2⟩
theorem RH.fresh (r : RH R α h H) {p : Addr} (hp : H p = none) : p ∉ α := fun hm => by
  obtain ⟨n, e⟩ := List.getElem?_of_mem hm
  obtain ⟨o, _, ro⟩ := r.at e
  obtain ⟨ho, e2⟩ := ro.some
  rw [hp] at e2
  cases e2
theorem NT.none {p : Addr} (h : H p = none) : NT H p := fun o e => by
  rw [h] at e
  cases e
theorem upd_dom {p : Addr} {o : HO} (ho : ∀ ps, o ≠ .tbl ps) (a : Addr) (h : NT (upd H p o) a) : NT H a := by
  by_cases e : a = p
  · obtain ⟨ps, z⟩ := h o (by rw [e]; exact upd_same)
    exact absurd z (ho ps)
  · intro u hu
    exact h u (by rw [upd_ne e]; exact hu)
/-- an untracked thing is laid beside (a tuple, an exception's dict) -/
theorem Ext.side {p : Addr} {o : HO} (hp : H p = none) (nt : ∀ ps, o ≠ .tbl ps := by intro ps z; cases z) : Ext α H α (upd H p o) := ⟨⟨[], by simp, by simp⟩, fun a u e _ => by
  rw [upd_ne (ne_of_none e hp)]; exact e, fun a u e _ _ => by
  rw [upd_ne (ne_of_none e hp)]; exact e, upd_dom nt⟩
theorem RH.side (r : RH R α h H) {p : Addr} {o : HO} (hp : H p = none) (nt : ∀ ps, o ≠ .tbl ps := by intro ps z; cases z) : RH R α h (upd H p o) := ⟨r.len, r.nd, fun n ob e => by
  obtain ⟨a, h1, h2⟩ := r.obj n ob e
  obtain ⟨ho, h3⟩ := h2.some
  exact ⟨a, h1, h2.ext (Ext.side hp nt) (upd_ne (ne_of_none h3 hp))⟩, r.tab.ext fun b u e => (upd_ne (ne_of_none e hp)).trans e, R.mono (Ext.side hp nt) r.kp⟩
/-- a new object of ours -/
theorem Ext.new {p : Addr} {o : HO} (hp : H p = none) (nt : ∀ ps, o ≠ .tbl ps := by intro ps z; cases z) : Ext α H (α ++ [p]) (upd H p o) := ⟨⟨[p], rfl, fun b hb => by rw [List.mem_singleton.mp hb]; exact .none hp⟩, fun a u e _ => by
  rw [upd_ne (ne_of_none e hp)]; exact e, fun a u e _ _ => by
  rw [upd_ne (ne_of_none e hp)]; exact e, upd_dom nt⟩
theorem RH.new (r : RH R α h H) {p : Addr} {o : HO} {ob : Ob} (hp : H p = none) (n : RelO R (α ++ [p]) (upd H p o) ob p) (nt : ∀ ps, o ≠ .tbl ps := by intro ps z; cases z) : RH R (α ++ [p]) (h ++ [ob]) (upd H p o) := by
  refine ⟨by rw [List.length_append, List.length_append, r.len]; rfl, ?_, fun m ob' e => ?_, r.tab.ext fun b u e => (upd_ne (ne_of_none e hp)).trans e, R.mono (Ext.new hp nt) r.kp⟩
  · rw [List.nodup_append]
    refine ⟨r.nd, by simp, fun a ha b hb => ?_⟩
    have : b = p := by simpa using hb
    subst this
    exact fun e => r.fresh hp (e ▸ ha)
  · by_cases hm : m < h.length
    · rw [List.getElem?_append_left hm] at e
      obtain ⟨a, h1, h2⟩ := r.obj m ob' e
      obtain ⟨ho, h3⟩ := h2.some
      exact ⟨a, (Ext.new (o := o) hp nt).get h1, h2.ext (Ext.new hp nt) (upd_ne (ne_of_none h3 hp))⟩
    · have hm2 : m = h.length := by
        have := (List.getElem?_eq_some_iff.mp e).1
        rw [List.length_append] at this
        simp at this
        omega
      subst hm2
      rw [List.getElem?_append_right (Nat.le_refl _)] at e
      simp at e
      subst e
      exact ⟨p, by rw [← r.len, List.getElem?_append_right (Nat.le_refl _)]; simp, n⟩
theorem RH.new_at (r : RH R α h H) {p : Addr} : (α ++ [p])[h.length]? = some p := by
  rw [← r.len, List.getElem?_append_right (Nat.le_refl _)]; simp
/-- an object of ours is written -/
def MutO : HO → Prop
  | .lst _ => True
  | .dK _ => True
  | _ => False
theorem Ext.write {n : Nat} {a : Addr} {o u : HO} (hn : α[n]? = some a) (ha : H a = some u) (hm : MutO u) (nt : ∀ ps, o ≠ .tbl ps := by intro ps z; cases z) : Ext α H α (upd H a o) := ⟨⟨[], by simp, by simp⟩, fun b v e s => by
  have : b ≠ a := fun z => by
    subst z
    rw [ha] at e
    cases e
    cases u <;> first | exact hm | exact s
  rw [upd_ne this]; exact e, fun b v e nb _ => by
  rw [upd_ne (fun z => nb (by rw [z]; exact List.mem_of_getElem? hn))]; exact e, upd_dom nt⟩
theorem tabs_write {T : List (Addr × Str)} {a : Addr} {o u : HO} (t : LamX.Tabs T H) (ha : H a = some u) (hm : MutO u) : LamX.Tabs T (upd H a o) := fun p hp => by
  obtain ⟨ps, h1, h2, h3⟩ := t p hp
  refine ⟨ps, ?_, h2, fun pos cv hc => ?_⟩
  · rw [upd_ne (fun z => by rw [z, ha] at h1; cases h1; exact hm)]
    exact h1
  · obtain ⟨c, e1, e2⟩ := h3 pos cv hc
    refine ⟨c, e1, ?_⟩
    rw [upd_ne (fun z => by rw [z, ha] at e2; cases e2; exact hm)]
    exact e2
/-- only tables grew -/
theorem RH.extN (r : RH R α h H) (e : LamX.ExtN H H') (t : LamX.Tabs R.T H') : Ext α H α H' ∧ RH R α h H' := by
  have x : Ext α H α H' := ⟨⟨[], by simp, by simp⟩, fun a o q s => e a o q fun ps z => by rw [z] at s; exact s, fun a o q _ n => e a o q n, fun a h o q => by
    refine Classical.byContradiction fun c => ?_
    have n : ∀ ps, o ≠ .tbl ps := fun ps z => c ⟨ps, z⟩
    exact c (h o (e a o q n))⟩
  refine ⟨x, r.len, r.nd, fun n o q => ?_, t, R.mono x r.kp⟩
  obtain ⟨a, h1, h2⟩ := r.obj n o q
  obtain ⟨ho, h3⟩ := h2.some
  refine ⟨a, h1, h2.ext x ?_⟩
  rw [h3]
  refine e a ho h3 fun ps z => ?_
  subst z
  cases o with
  | lst xs => obtain ⟨vs, q, _⟩ := h2; rw [h3] at q; cases q
  | fro xs => obtain ⟨vs, ob, q, _⟩ := h2; rw [h3] at q; cases q
  | dic kvs => obtain ⟨vs, q, _⟩ := h2; rw [h3] at q; cases q
theorem RH.write (r : RH R α h H) {n : Nat} {a : Addr} {o u : HO} {ob : Ob} (hn : α[n]? = some a) (ha : H a = some u) (hm : MutO u) (w : RelO R α (upd H a o) ob a) (nt : ∀ ps, o ≠ .tbl ps := by intro ps z; cases z) : RH R α (h.set n ob) (upd H a o) := by
  refine ⟨by rw [List.length_set]; exact r.len, r.nd, fun m ob' e => ?_, tabs_write r.tab ha hm, R.mono (Ext.write hn ha hm nt) r.kp⟩
  by_cases hmn : n = m
  · subst hmn
    have hl : n < h.length := by rw [← r.len]; exact (List.getElem?_eq_some_iff.mp hn).1
    rw [List.getElem?_set_self hl] at e
    cases e
    exact ⟨a, hn, w⟩
  · rw [List.getElem?_set_ne hmn] at e
    obtain ⟨b, h1, h2⟩ := r.obj m ob' e
    have hb : b ≠ a := fun z => by
      subst z
      obtain ⟨l1, e1⟩ := List.getElem?_eq_some_iff.mp hn
      obtain ⟨l2, e2⟩ := List.getElem?_eq_some_iff.mp h1
      exact hmn ((List.getElem_inj r.nd).mp (e1.trans e2.symm))
    exact ⟨b, h1, h2.ext (Ext.write hn ha hm nt) (upd_ne hb)⟩
end

/-! ### the judgements -/
def RelX (R : Rx) (α : List Addr) (H : Hp) (e : Exn) (cls : Value) (dd : Addr) : Prop :=
  ∃ C v', R.mg e.c = some (.ref C) ∧ cls = .ref C ∧ H dd = some (.xd [(e.f, v')]) ∧ RelD R α H e.v v'
def Fin {A B : Type} (Rl : List Addr → Hp → A → B → Prop) (R : Rx) (W : WX) (α : List Addr) (H : Hp) (σ : St) (r : Res A) (Q : B → Hp → Prop) : Prop := match r with
  | .ok d h' => ∀ α' H' v, Ext α H α' H' → RH R α' h' H' → Rl α' H' d v → Q v H'
  | .ex e h' => ∀ α' H' cls dd, Ext α H α' H' → RH R α' h' H' → RelX R α' H' e cls dd → W cls (some dd) σ H'
  | .no => False
abbrev FinE (R : Rx) := Fin (RelD R) R
abbrev FinA (R : Rx) := Fin (RelDs R) R
abbrev FinT (R : Rx) := Fin (fun _ _ (a b : Bool) => a = b) R
theorem Fin.mono {A B : Type} {Rl : List Addr → Hp → A → B → Prop} {R : Rx} {W : WX} {α α' : List Addr} {H H' : Hp} {σ : St} {r : Res A} {Q : B → Hp → Prop} (f : Fin Rl R W α H σ r Q) (e : Ext α H α' H') : Fin Rl R W α' H' σ r Q := by
  cases r with
  | ok d h => exact fun α2 H2 v e2 => f α2 H2 v (e.trans e2)
  | ex x h => exact fun α2 H2 c dd e2 => f α2 H2 c dd (e.trans e2)
  | no => exact f
theorem Fin.split {A B C E : Type} {Rl : List Addr → Hp → A → B → Prop} {Rm : List Addr → Hp → C → E → Prop} {R : Rx} {W : WX} {α : List Addr} {H : Hp} {σ : St} {r : Res A} {g : A → Hd → Res C} {Q : E → Hp → Prop} (f : Fin Rm R W α H σ (r.bind g) Q) :
    Fin Rl R W α H σ r (fun v H1 => ∃ d α1 h1, r = .ok d h1 ∧ Ext α H α1 H1 ∧ RH R α1 h1 H1 ∧ Rl α1 H1 d v ∧ Fin Rm R W α1 H1 σ (g d h1) Q) := by
  cases r with
  | ok d h => exact fun α' H' v e rh rl => ⟨d, α', h, rfl, e, rh, rl, Fin.mono (r := g d h) f e⟩
  | ex x h => exact f
  | no => exact f
theorem Fin.imp {A B : Type} {Rl : List Addr → Hp → A → B → Prop} {R : Rx} {W : WX} {α : List Addr} {H : Hp} {σ : St} {r : Res A} {Q Q' : B → Hp → Prop} (f : Fin Rl R W α H σ r Q) (q : ∀ v H, Q v H → Q' v H) : Fin Rl R W α H σ r Q' := by
  cases r with
  | ok d h => exact fun α2 H2 v e2 r2 l2 => q _ _ (f α2 H2 v e2 r2 l2)
  | ex x h => exact f
  | no => exact f
abbrev Fe := En → Hd → Res D
abbrev Fa := En → Hd → Res (List D)
abbrev Ft := En → Hd → Res Bool
def tE (R : Rx) (W : WX) (f : Fe) : TE := fun σ H Q => ∃ α env h, RelEnv R α H env σ ∧ RH R α h H ∧ FinE R W α H σ (f env h) Q
def tA (R : Rx) (W : WX) (f : Fa) : TA := fun σ H Q => ∃ α env h, RelEnv R α H env σ ∧ RH R α h H ∧ FinA R W α H σ (f env h) Q
def tT (R : Rx) (W : WX) (f : Ft) : TT := fun σ H Q => ∃ α env h, RelEnv R α H env σ ∧ RH R α h H ∧ FinT R W α H σ (f env h) Q
abbrev DE (X : Cx) (R : Rx) (W : WX) (e : Expr) (f : Fe) : Prop := PE X e (tE R W f)
abbrev DA (X : Cx) (R : Rx) (W : WX) (es : List Expr) (f : Fa) : Prop := PA X es (tA R W f)
abbrev DT (X : Cx) (R : Rx) (W : WX) (e : Expr) (f : Ft) : Prop := PT X e (tT R W f)
abbrev DW (X : Cx) (R : Rx) (W : WX) (e : Expr) (f : Ft) : Prop := PW X e (tT R W f)

/-! ### names, constants -/
@[simp] def eVar (i : Nat) : Fe := fun env h => match env[i]? with
  | some (some (.lam _)) => .no
  | some (some d) => .ok d h
  | _ => .no
@[simp] def eC (d : D) : Fe := fun _ h => .ok d h
section
variable {X : Cx} {R : Rx} {W : WX} {pos : Pos}
theorem de_var (i : Nat) {x : Str} (hN : X.N[i]? = some x := by rfl) (hv : Vis X.env.scope x := by first | exact Or.inl rfl | exact Or.inr (Or.inl rfl) | exact Or.inr (Or.inr rfl)) (hd : (x == ("__debug__" : Str)) = false := by decide)
    (hcd : (x == ("__classdict__" : Str)) = false := by decide) : DE X R W (.Name x pos) (eVar i) := by
  refine ⟨fun pins s σ H Q I h => ?_⟩
  obtain ⟨α, env, hp, re, rh, f⟩ := h
  unfold eVar at f
  cases e : env[i]? with
  | none => rw [e] at f; exact f.elim
  | some od =>
    cases od with
    | none => rw [e] at f; exact f.elim
    | some d =>
      rw [e] at f
      obtain ⟨v, h1, h2⟩ := re.2 i d e
      have q : (∀ m, d ≠ .lam m) ∧ FinE R W α H σ (.ok d hp) Q := by
        cases d <;> first | exact ⟨fun _ z => (nomatch z), f⟩ | exact (show False from f).elim
      exact (pe_var (pos := pos) hN hv hd hcd).run pins s σ H Q I ⟨v, h1, q.2 α H v .refl rh (h2.to q.1)⟩
theorem de_const {e : Expr} {v : V} {d : D} (h : PE X e (tC v)) (r : ∀ α H, RelD R α H d v) : DE X R W e (eC d) := by
  refine ⟨fun pins s σ H Q I q => ?_⟩
  obtain ⟨α, env, hp, re, rh, f⟩ := q
  exact h.run pins s σ H Q I (f α H v .refl rh (r α H))
theorem de_int {i j} : DE X R W (.Constant (.int i) j pos) (eC (.int i)) := de_const pe_int fun _ _ => .int
theorem de_bl {b j} : DE X R W (.Constant (.bool b) j pos) (eC (.bl b)) := de_const pe_bl fun _ _ => .bl
theorem de_non {j} : DE X R W (.Constant .none j pos) (eC .non) := de_const pe_non fun _ _ => .non
theorem de_str {x j} : DE X R W (.Constant (.str x) j pos) (eC (.str x)) := de_const pe_str fun _ _ => .str
/-- a def or a class of the module as a value -/
theorem de_gl {x : Str} (hg : Gl X x) (hR : R.mg = X.mg) (hm : ∃ a, X.mg x = some (.ref a)) (hd : (x == ("__debug__" : Str)) = false := by decide) : DE X R W (.Name x pos) (eC (.gl x)) := by
  obtain ⟨a, hm⟩ := hm
  exact de_const (pe_glob (v := .ref a) hg hm rfl hd) fun _ _ => .gl (by rw [hR]; exact hm)
theorem de_gint {x : Str} {i : Int} (hg : Gl X x) (hm : ∃ t, X.mg x = some (.int i t)) (hd : (x == ("__debug__" : Str)) = false := by decide) : DE X R W (.Name x pos) (eC (.int i)) := by
  obtain ⟨t, hm⟩ := hm
  exact de_const (pe_glob (v := .int i) hg hm ⟨t, rfl⟩ hd) fun _ _ => .int
theorem de_gstr {x z : Str} (hg : Gl X x) (hm : ∃ t, X.mg x = some (.str z t)) (hd : (x == ("__debug__" : Str)) = false := by decide) : DE X R W (.Name x pos) (eC (.str z)) := by
  obtain ⟨t, hm⟩ := hm
  exact de_const (pe_glob (v := .str z) hg hm ⟨t, rfl⟩ hd) fun _ _ => .str
theorem de_type {x : Str} {n : String} (hg : Gl X x) (hm : X.mg x = none) (hv : bootBuiltins x = some (.type n)) (hn : x ≠ "__name__" := by decide) (hd : (x == ("__debug__" : Str)) = false := by decide) : DE X R W (.Name x pos) (eC (.ty n)) :=
  de_const (pe_bltn (v := .ty n) hg hm hv rfl hn hd) fun _ _ => .ty
end

/-! ### operators -/
def OpD (X : Cx) (R : Rx) (f : Value → Value → Sem Value) (g : D → D → Hd → Res D) : Prop :=
  ∀ (x y : D) (α : List Addr) (h : Hd) (H : Hp) (vx vy : V) (W : WX) (σ : St) (Q : VK), RH R α h H → RelD R α H x vx → RelD R α H y vy → FinE R W α H σ (g x y h) Q → ∃ r, OpR X f r ∧ r vx vy H Q
@[simp] def eOp (g : D → D → Hd → Res D) (fa fb : Fe) : Fe := fun env h => (fa env h).bind fun x h1 => (fb env h1).bind fun y h2 => g x y h2
@[simp] def eUn (g : D → Hd → Res D) (fa : Fe) : Fe := fun env h => (fa env h).bind g
def UnD (X : Cx) (R : Rx) (f : Value → Sem Value) (g : D → Hd → Res D) : Prop :=
  ∀ (x : D) (α : List Addr) (h : Hd) (H : Hp) (vx : V) (W : WX) (σ : St) (Q : VK), RH R α h H → RelD R α H x vx → FinE R W α H σ (g x h) Q → ∃ r, UnR X f r ∧ r vx H Q
section
variable {X : Cx} {R : Rx} {W : WX} {a b c : Expr} {fa fb fc : Fe} {pos : Pos}
theorem d_bin {f : Value → Value → Sem Value} {g : D → D → Hd → Res D} (ho : OpD X R f g) (ha : DE X R W a fa) (hb : DE X R W b fb) {pins : List (Addr × Obj)} {s : Shared} {σ : St} {H : Hp} {Q : VK} (I : Inv X pins σ H s) (h : tE R W (eOp g fa fb) σ H Q) :
    wpAny (model X.prog X.w) X.A (eval a X.env) (fun v s₁ => wpAny (model X.prog X.w) X.A (eval b X.env) (fun u s₂ => wpAny (model X.prog X.w) X.A (f v u) (EP X pins σ Q) X.xe s₂) X.xe s₁) X.xe s := by
  obtain ⟨α, env, hp, re, rh, fi⟩ := h
  refine thn (ha.run pins s σ H _ I ⟨α, env, hp, re, rh, fi.split⟩) fun v s1 ⟨x, H1, I1, r1, q1⟩ => ?_
  obtain ⟨d, α1, h1, _, x1, rh1, rd1, f1⟩ := q1
  refine thn (hb.run pins s1 σ H1 _ I1 ⟨α1, env, h1, re.ext x1, rh1, f1.split⟩) fun u s2 ⟨y, H2, I2, r2, q2⟩ => ?_
  obtain ⟨d2, α2, h2, _, x2, rh2, rd2, f2⟩ := q2
  obtain ⟨r, hr, q⟩ := ho _ _ _ _ _ _ _ _ _ _ rh2 (RelD.ext x2 _ _ rd1) rd2 f2
  exact hr pins s2 σ H2 x y v u Q I2 r1 r2 q
theorem de_op {op : Operator} {g : D → D → Hd → Res D} (ho : OpD X R (binaryOp op) g) (ha : DE X R W a fa) (hb : DE X R W b fb) : DE X R W (.BinOp a op b pos) (eOp g fa fb) :=
  ⟨fun pins s σ H Q I h => wpAny_BinOp (d_bin ho ha hb I h)⟩
theorem de_cmp {op : CmpOp} {g : D → D → Hd → Res D} (ho : OpD X R (compareOp op) g) (ha : DE X R W a fa) (hb : DE X R W b fb) (hm : behindInMarks op b = false) : DE X R W (.Compare a [op] [b] pos) (eOp g fa fb) :=
  ⟨fun pins s σ H Q I h => wpAny_Compare1 (d_bin ho ha hb I h) hm⟩
theorem de_un {op : UnaryOp} {g : D → Hd → Res D} (ho : UnD X R (unaryOp op) g) (ha : DE X R W a fa) : DE X R W (.UnaryOp op a pos) (eUn g fa) := by
  refine ⟨fun pins s σ H Q I h => ?_⟩
  obtain ⟨α, env, hp, re, rh, fi⟩ := h
  refine UnaryOp_ (thn (ha.run pins s σ H _ I ⟨α, env, hp, re, rh, Fin.split (g := g) fi⟩) fun v s1 ⟨x, H1, I1, r1, q1⟩ => ?_)
  obtain ⟨d, α1, h1, _, x1, rh1, rd1, f1⟩ := q1
  obtain ⟨r, hr, q⟩ := ho _ _ _ _ _ _ _ _ rh1 rd1 f1
  exact hr pins s1 σ H1 x v Q I1 r1 q
/-! ### tests -/
@[simp] def toB : D → Hd → Res Bool := fun d h => match d with
  | .bl b => .ok b h
  | _ => .no
@[simp] def tOf (f : Fe) : Ft := fun env h => (f env h).bind toB
/-- a value that is a bool, as a test -/
theorem dt_val (ha : DE X R W a fa) (he : ∀ whole, isTrue a X.env whole = (do let v ← whole; standAt a.pos; holding [v] (truthy v)) := by intro _; rfl) : DT X R W a (tOf fa) := by
  refine ⟨fun pins s σ H Q I h => ?_⟩
  obtain ⟨α, env, hp, re, rh, fi⟩ := h
  refine (pt_val ha he).run pins s σ H Q I ⟨α, env, hp, re, rh, (Fin.split (g := toB) fi).imp fun v H1 hq => ?_⟩
  obtain ⟨d, α1, h1, _, x1, rh1, rd1, f1⟩ := hq
  cases d with
  | bl k => exact ⟨k, rd1.bl_inv, f1 α1 H1 k .refl rh1 rfl⟩
  | _ => exact (show False from f1).elim
theorem dt_cmp {op : CmpOp} {g : D → D → Hd → Res D} (ho : OpD X R (compareOp op) g) (ha : DE X R W a fa) (hb : DE X R W b fb) (hm : behindInMarks op b = false) : DT X R W (.Compare a [op] [b] pos) (tOf (eOp g fa fb)) := by
  refine ⟨fun pins s σ H Q I h => ?_⟩
  obtain ⟨α, env, hp, re, rh, fi⟩ := h
  refine wpAny_isTrue_Compare1 (thn (d_bin (Q := fun v H1 => ∃ c, v = .bl c ∧ Q c H1) ho ha hb I ⟨α, env, hp, re, rh, (Fin.split (g := toB) fi).imp fun v H1 hq => ?_⟩) fun v s1 h1 => thn h1 fun u s2 h2 => thn h2 fun c s3 ⟨x, H1, I1, r1, q1⟩ => ?_) hm
  · obtain ⟨d, α1, h1, _, x1, rh1, rd1, f1⟩ := hq
    cases d with
    | bl k => exact ⟨k, rd1.bl_inv, f1 α1 H1 k .refl rh1 rfl⟩
    | _ => exact (show False from f1).elim
  · obtain ⟨d, rfl, q⟩ := q1
    cases r1
    exact wpAny_truthy_bool ⟨H1, I1, q⟩
@[simp] def tAndD (f g : Ft) : Ft := fun env h => (f env h).bind fun c h1 => if c = true then g env h1 else .ok false h1
@[simp] def tOrD (f g : Ft) : Ft := fun env h => (f env h).bind fun c h1 => if c = true then .ok true h1 else g env h1
@[simp] def tNotD (f : Ft) : Ft := fun env h => (f env h).bind fun c h1 => .ok (!c) h1
variable {ta tb : Ft} {rest : List Expr}
theorem dw_and1 (ha : DT X R W a ta) : DW X R W (.BoolOp .And [a] pos) ta := pw_and1 ha
theorem dw_or1 (ha : DT X R W a ta) : DW X R W (.BoolOp .Or [a] pos) ta := pw_or1 ha
theorem dw_and (ha : DT X R W a ta) (hb : DW X R W (.BoolOp .And (b :: rest) pos) tb) : DW X R W (.BoolOp .And (a :: b :: rest) pos) (tAndD ta tb) := by
  refine ⟨fun wh pins s σ H Q I h => (pw_and ha hb).run wh pins s σ H Q I ?_⟩
  obtain ⟨α, env, hp, re, rh, fi⟩ := h
  refine ⟨α, env, hp, re, rh, (Fin.split fi).imp fun c H1 hq => ?_⟩
  obtain ⟨d, α1, h1, _, x1, rh1, rd1, f1⟩ := hq
  have rd1 : d = c := rd1
  subst rd1
  cases d with
  | true => exact ⟨α1, env, h1, re.ext x1, rh1, f1⟩
  | false => exact f1 α1 H1 false .refl rh1 rfl
theorem dw_or (ha : DT X R W a ta) (hb : DW X R W (.BoolOp .Or (b :: rest) pos) tb) : DW X R W (.BoolOp .Or (a :: b :: rest) pos) (tOrD ta tb) := by
  refine ⟨fun wh pins s σ H Q I h => (pw_or ha hb).run wh pins s σ H Q I ?_⟩
  obtain ⟨α, env, hp, re, rh, fi⟩ := h
  refine ⟨α, env, hp, re, rh, (Fin.split fi).imp fun c H1 hq => ?_⟩
  obtain ⟨d, α1, h1, _, x1, rh1, rd1, f1⟩ := hq
  have rd1 : d = c := rd1
  subst rd1
  cases d with
  | false => exact ⟨α1, env, h1, re.ext x1, rh1, f1⟩
  | true => exact f1 α1 H1 true .refl rh1 rfl
theorem dt_bool (h : DW X R W a ta) : DT X R W a ta := h.pt
theorem dt_not (ha : DT X R W a ta) : DT X R W (.UnaryOp .Not a pos) (tNotD ta) := by
  refine ⟨fun pins s σ H Q I h => (pt_not ha).run pins s σ H Q I ?_⟩
  obtain ⟨α, env, hp, re, rh, fi⟩ := h
  refine ⟨α, env, hp, re, rh, (Fin.split fi).imp fun c H1 hq => ?_⟩
  obtain ⟨d, α1, h1, _, x1, rh1, rd1, f1⟩ := hq
  have rd1 : d = c := rd1
  subst rd1
  exact f1 α1 H1 _ .refl rh1 rfl
/-! ### and, or, not as values: bools on the left -/
@[simp] def eAnd (fa fb : Fe) : Fe := fun env h => (fa env h).bind fun x h1 => match x with
  | .bl true => fb env h1
  | .bl false => .ok (.bl false) h1
  | _ => .no
@[simp] def eOr (fa fb : Fe) : Fe := fun env h => (fa env h).bind fun x h1 => match x with
  | .bl false => fb env h1
  | .bl true => .ok (.bl true) h1
  | _ => .no
@[simp] def eNot (fa : Fe) : Fe := fun env h => (fa env h).bind fun x h1 => match x with
  | .bl b => .ok (.bl (!b)) h1
  | _ => .no
theorem de_one {op} (h : DE X R W a fa) : DE X R W (.BoolOp op [a] pos) fa := pe_one h
theorem de_and (ha : DE X R W a fa) (hb : DE X R W (.BoolOp .And (b :: rest) pos) fb) : DE X R W (.BoolOp .And (a :: b :: rest) pos) (eAnd fa fb) := by
  refine ⟨fun pins s σ H Q I h => (pe_and ha hb).run pins s σ H Q I ?_⟩
  obtain ⟨α, env, hp, re, rh, fi⟩ := h
  refine ⟨α, env, hp, re, rh, (Fin.split fi).imp fun c H1 hq => ?_⟩
  obtain ⟨d, α1, h1, _, x1, rh1, rd1, f1⟩ := hq
  cases d with
  | bl k =>
    refine ⟨k, rd1.bl_inv, ?_⟩
    cases k with
    | true => exact ⟨α1, env, h1, re.ext x1, rh1, f1⟩
    | false => exact f1 α1 H1 _ .refl rh1 .bl
  | _ => exact (show False from f1).elim
theorem de_or (ha : DE X R W a fa) (hb : DE X R W (.BoolOp .Or (b :: rest) pos) fb) : DE X R W (.BoolOp .Or (a :: b :: rest) pos) (eOr fa fb) := by
  refine ⟨fun pins s σ H Q I h => (pe_or ha hb).run pins s σ H Q I ?_⟩
  obtain ⟨α, env, hp, re, rh, fi⟩ := h
  refine ⟨α, env, hp, re, rh, (Fin.split fi).imp fun c H1 hq => ?_⟩
  obtain ⟨d, α1, h1, _, x1, rh1, rd1, f1⟩ := hq
  cases d with
  | bl k =>
    refine ⟨k, rd1.bl_inv, ?_⟩
    cases k with
    | false => exact ⟨α1, env, h1, re.ext x1, rh1, f1⟩
    | true => exact f1 α1 H1 _ .refl rh1 .bl
  | _ => exact (show False from f1).elim
theorem de_not (ha : DE X R W a fa) : DE X R W (.UnaryOp .Not a pos) (eNot fa) := by
  refine ⟨fun pins s σ H Q I h => (pe_not ha).run pins s σ H Q I ?_⟩
  obtain ⟨α, env, hp, re, rh, fi⟩ := h
  refine ⟨α, env, hp, re, rh, (Fin.split fi).imp fun c H1 hq => ?_⟩
  obtain ⟨d, α1, h1, _, x1, rh1, rd1, f1⟩ := hq
  cases d with
  | bl k => exact ⟨k, rd1.bl_inv, f1 α1 H1 _ .refl rh1 .bl⟩
  | _ => exact (show False from f1).elim
@[simp] def eIf (ft : Ft) (fa fb : Fe) : Fe := fun env h => (ft env h).bind fun c h1 => if c = true then fa env h1 else fb env h1
theorem de_if {tc : Ft} (hc : DT X R W c tc) (ha : DE X R W a fa) (hb : DE X R W b fb) : DE X R W (.IfExp c a b pos) (eIf tc fa fb) := by
  refine ⟨fun pins s σ H Q I h => (pe_ifExp hc ha hb).run pins s σ H Q I ?_⟩
  obtain ⟨α, env, hp, re, rh, fi⟩ := h
  refine ⟨α, env, hp, re, rh, (Fin.split fi).imp fun c H1 hq => ?_⟩
  obtain ⟨d, α1, h1, _, x1, rh1, rd1, f1⟩ := hq
  have rd1 : d = c := rd1
  subst rd1
  cases d with
  | true => exact ⟨α1, env, h1, re.ext x1, rh1, f1⟩
  | false => exact ⟨α1, env, h1, re.ext x1, rh1, f1⟩
/-! ### a chain of two comparisons -/
@[simp] def eChain (g g' : D → D → Hd → Res D) (fa fb fc : Fe) : Fe := fun env h => (fa env h).bind fun x h1 => (fb env h1).bind fun y h2 => (g x y h2).bind fun z h3 => match z with
  | .bl true => (fc env h3).bind fun u h4 => g' y u h4
  | .bl false => .ok (.bl false) h3
  | _ => .no
end
end Mi

set_option Elab.async false
set_option linter.all false
set_option maxRecDepth 100000
set_option maxHeartbeats 1000000
namespace Mi
open PySem PySem.Spec PyProof.Rows L2

/-! ### targets -/
def Keep (ts : List Nat) (σ s : St) : Prop := s.length = σ.length ∧ ∀ i, i ∉ ts → s[i]? = σ[i]?
abbrev Fg := D → En → Hd → Option (En × Hd)
abbrev Fgs := List D → En → Hd → Option (En × Hd)
def FinG (R : Rx) (ts : List Nat) (σ : St) (α : List Addr) (H : Hp) (r : Option (En × Hd)) (Q : St → Hp → Prop) : Prop := match r with
  | some (env', h') => ∀ α' H' s, Ext α H α' H' → RH R α' h' H' → RelEnv R α' H' env' s → Keep ts σ s → Q s H'
  | none => False
def tG (R : Rx) (ts : List Nat) (f : Fg) : TG := fun v σ H Q => ∃ α env h d, RelEnv R α H env σ ∧ RH R α h H ∧ RelD R α H d v ∧ FinG R ts σ α H (f d env h) Q
def tGs (R : Rx) (ts : List Nat) (f : Fgs) : TGs := fun vs σ H Q => ∃ α env h ds, RelEnv R α H env σ ∧ RH R α h H ∧ RelDs R α H ds vs ∧ FinG R ts σ α H (f ds env h) Q
abbrev DG (X : Cx) (R : Rx) (tg : Expr) (ts : List Nat) (f : Fg) : Prop := PG X tg (tG R ts f)
abbrev DGs (X : Cx) (R : Rx) (tgs : List Expr) (ts : List Nat) (f : Fgs) : Prop := PGs X tgs (tGs R ts f)
@[simp] def gSet (i : Nat) : Fg := fun d env h => if i < env.length then some (env.set i (some d), h) else none
@[simp] def gsNil : Fgs := fun ds env h => match ds with
  | [] => some (env, h)
  | _ => none
@[simp] def gsCons (f : Fg) (g : Fgs) : Fgs := fun ds env h => match ds with
  | d :: r => (match f d env h with
    | some (env1, h1) => g r env1 h1
    | none => none)
  | [] => none
/-- a tuple or a list of just so many -/
@[simp] def gUnp (n : Nat) (g : Fgs) : Fg := fun d env h => match d with
  | .tup xs => if xs.length = n then g xs env h else none
  | .ref k => (match h[k]? with
    | some (.lst xs) => if xs.length = n then g xs env h else none
    | _ => none)
  | _ => none
section
variable {X : Cx} {R : Rx} {pos : Pos}
theorem Keep.refl {ts : List Nat} {σ : St} : Keep ts σ σ := ⟨rfl, fun _ _ => rfl⟩
theorem Keep.trans {ts us : List Nat} {σ s t : St} (a : Keep ts σ s) (b : Keep us s t) : Keep (ts ++ us) σ t :=
  ⟨b.1.trans a.1, fun i hi => by
    rw [List.mem_append, not_or] at hi
    exact (b.2 i hi.2).trans (a.2 i hi.1)⟩
theorem dg_name (i : Nat) {x : Str} (hN : X.N.Nodup) (hi : X.N[i]? = some x := by rfl) (hx : Loc X.env.scope x := by first | exact Or.inl rfl | exact Or.inr rfl) (hf : X.fn x = true ∨ X.env.scope.names.lookup x = some .local := by first | exact .inl rfl | exact .inr rfl | assumption) : DG X R (.Name x pos) [i] (gSet i) := by
  refine ⟨fun pins s σ H v u Q I r h => (pg_name (pos := pos) hN hi hx hf).run pins s σ H v u Q I r ?_⟩
  obtain ⟨α, env, hp, d, re, rh, rd, f⟩ := h
  unfold gSet at f
  split at f
  · exact f α H _ .refl rh (re.set rd) ⟨by rw [List.length_set], fun j hj => List.getElem?_set_ne (fun e => hj (by simp [e]))⟩
  · exact f.elim
theorem dgs_nil : DGs X R [] [] gsNil := by
  refine ⟨fun pins s σ H vs us Q I r h => pgs_nil.run pins s σ H vs us Q I r ?_⟩
  obtain ⟨α, env, hp, ds, re, rh, rd, f⟩ := h
  cases ds with
  | nil => exact ⟨rd.nil_inv, f α H σ .refl rh re .refl⟩
  | cons _ _ => exact (show False from f).elim
theorem dgs_cons {e : Expr} {es : List Expr} {ts us : List Nat} {f : Fg} {g : Fgs} (h1 : DG X R e ts f) (h2 : DGs X R es us g) (hs : (assignEach (e :: es) X.env).map (·.2) = assign e X.env :: (assignEach es X.env).map (·.2) := by rfl) :
    DGs X R (e :: es) (ts ++ us) (gsCons f g) := by
  refine ⟨fun pins s σ H vs us' Q I r h => (pgs_cons h1 h2 hs).run pins s σ H vs us' Q I r ?_⟩
  obtain ⟨α, env, hp, ds, re, rh, rd, fi⟩ := h
  cases ds with
  | nil => exact (show False from fi).elim
  | cons d ds =>
    obtain ⟨v, r', ev, r1, r2⟩ := rd.cons_inv
    subst ev
    refine ⟨v, r', rfl, α, env, hp, d, re, rh, r1, ?_⟩
    have fi : FinG R (ts ++ us) σ α H (match f d env hp with
      | some (env1, h1) => g ds env1 h1
      | none => none) Q := fi
    cases e1 : f d env hp with
    | none => rw [e1] at fi; exact fi
    | some p =>
      obtain ⟨env1, hp1⟩ := p
      rw [e1] at fi
      intro α1 H1 σ1 x1 rh1 re1 k1
      refine ⟨α1, env1, hp1, ds, re1, rh1, RelDs.ext x1 _ _ r2, ?_⟩
      have fi : FinG R (ts ++ us) σ α H (g ds env1 hp1) Q := fi
      cases e2 : g ds env1 hp1 with
      | none => rw [e2] at fi; exact fi
      | some p2 =>
        obtain ⟨env2, hp2⟩ := p2
        rw [e2] at fi
        intro α2 H2 σ2 x2 rh2 re2 k2
        exact fi α2 H2 σ2 (x1.trans x2) rh2 re2 (k1.trans k2)
theorem dg_unp {es : List Expr} {k n : Nat} {ts : List Nat} {g : Fgs} (hR : R.K = X.K) (hc : X.calm = true) (h : DGs X R es ts g)
    (hn : (assignEach es X.env).length = n := by rfl) (hst : (assignEach es X.env).findIdx? (·.1) = none := by rfl) : DG X R (.Tuple es k pos) ts (gUnp n g) := by
  refine ⟨fun pins s σ H v u Q I r hw => ?_⟩
  obtain ⟨α, env, hp, d, re, rh, rd, fi⟩ := hw
  have fi : FinG R ts σ α H (gUnp n g d env hp) Q := fi
  cases d with
  | tup xs =>
    obtain ⟨a, vs, ev, hq, rs⟩ := rd.tup_inv
    unfold gUnp at fi
    dsimp only at fi
    split at fi
    · rename_i hl
      refine (pg_tup (pos := pos) (k := k) hc h hn hst).run pins s σ H v u Q I r ⟨a, vs, ev, hR ▸ hq, by rw [← rs.length]; exact hl, α, env, hp, xs, re, rh, rs, fi⟩
    · exact fi.elim
  | ref m =>
    obtain ⟨a, ea, ev⟩ := rd.ref_inv
    obtain ⟨o, eo, ro⟩ := rh.at ea
    unfold gUnp at fi
    dsimp only at fi
    rw [eo] at fi
    cases o with
    | lst xs =>
      obtain ⟨vs, hq, rs⟩ := ro
      dsimp only at fi
      split at fi
      · rename_i hl
        refine (pg_lst (pos := pos) (k := k) hc h hn hst).run pins s σ H v u Q I r ⟨a, vs, ev, SqL.of hq, by rw [← rs.length]; exact hl, α, env, hp, xs, re, rh, rs, fi⟩
      · exact fi.elim
    | _ => exact (show False from fi).elim
  | _ => exact (show False from fi).elim
end

/-! ### statements -/
inductive SRes where
  | nx (env : En) (h : Hd) | rt (d : D) (h : Hd) | bk (env : En) (h : Hd) | ct (env : En) (h : Hd) | ex (e : Exn) (env : En) (h : Hd) | no
abbrev Fs := En → Hd → SRes
def FinS (R : Rx) (W : WX) (α : List Addr) (H : Hp) (Dn : Ends) (r : SRes) : Prop := match r with
  | .nx env h => ∀ α' H' σ', Ext α H α' H' → RH R α' h H' → RelEnv R α' H' env σ' → Dn.nx σ' H'
  | .rt d h => ∀ α' H' v, Ext α H α' H' → RH R α' h H' → RelD R α' H' d v → Dn.rt v H'
  | .bk env h => ∀ α' H' σ', Ext α H α' H' → RH R α' h H' → RelEnv R α' H' env σ' → Dn.bk σ' H'
  | .ct env h => ∀ α' H' σ', Ext α H α' H' → RH R α' h H' → RelEnv R α' H' env σ' → Dn.ct σ' H'
  | .ex e env h => ∀ α' H' σ' cls dd, Ext α H α' H' → RH R α' h H' → RelEnv R α' H' env σ' → RelX R α' H' e cls dd → W cls (some dd) σ' H'
  | .no => False
def tS (R : Rx) (W : WX) (g : Fs) : TS := fun Dn σ H => ∃ α env h, RelEnv R α H env σ ∧ RH R α h H ∧ FinS R W α H Dn (g env h)
abbrev DS (X : Cx) (R : Rx) (W : WX) (st : Stmt) (g : Fs) : Prop := PS X st (tS R W g)
abbrev DSs (X : Cx) (R : Rx) (W : WX) (st : List Stmt) (g : Fs) : Prop := PSs X st (tS R W g)
theorem FinS.mono {R : Rx} {W : WX} {α α' : List Addr} {H H' : Hp} {Dn : Ends} {r : SRes} (f : FinS R W α H Dn r) (e : Ext α H α' H') : FinS R W α' H' Dn r := by
  cases r with
  | nx env h => exact fun α2 H2 σ2 e2 => f α2 H2 σ2 (e.trans e2)
  | rt d h => exact fun α2 H2 σ2 e2 => f α2 H2 σ2 (e.trans e2)
  | bk env h => exact fun α2 H2 σ2 e2 => f α2 H2 σ2 (e.trans e2)
  | ct env h => exact fun α2 H2 σ2 e2 => f α2 H2 σ2 (e.trans e2)
  | ex x env h => exact fun α2 H2 σ2 c dd e2 => f α2 H2 σ2 c dd (e.trans e2)
  | no => exact f
@[simp] def sNil : Fs := fun env h => .nx env h
@[simp] def sSeq (f g : Fs) : Fs := fun env h => match f env h with
  | .nx env1 h1 => g env1 h1
  | r => r
/-- an expression's value in a statement -/
@[simp] def sOf (f : Fe) (k : D → Fs) : Fs := fun env h => match f env h with
  | .ok d h1 => k d env h1
  | .ex e h1 => .ex e env h1
  | .no => .no
@[simp] def sTst (f : Ft) (k : Bool → Fs) : Fs := fun env h => match f env h with
  | .ok d h1 => k d env h1
  | .ex e h1 => .ex e env h1
  | .no => .no
@[simp] def sExpr (f : Fe) : Fs := sOf f fun _ env h => .nx env h
@[simp] def sRet (f : Fe) : Fs := sOf f fun d _ h => .rt d h
@[simp] def sRetN : Fs := fun _ h => .rt .non h
@[simp] def sIf (c : Ft) (f g : Fs) : Fs := sTst c fun b => if b = true then f else g
@[simp] def sAsg (f : Fe) (g : Fg) : Fs := sOf f fun d env h => match g d env h with
  | some (env1, h1) => .nx env1 h1
  | none => .no
@[simp] def sBrk : Fs := fun env h => .bk env h
@[simp] def sCont : Fs := fun env h => .ct env h
section
variable {X : Cx} {R : Rx} {W : WX} {pos : Pos} {e : Expr} {fe : Fe} {st : Stmt} {rest : List Stmt} {f g : Fs}
theorem finS_of {σ : St} {α : List Addr} {H : Hp} {Dn : Ends} {env : En} {h : Hd} {k : D → Fs} (re : RelEnv R α H env σ) (fi : FinS R W α H Dn (sOf fe k env h)) :
    FinE R W α H σ (fe env h) (fun v H1 => ∃ d α1 h1, fe env h = .ok d h1 ∧ Ext α H α1 H1 ∧ RH R α1 h1 H1 ∧ RelD R α1 H1 d v ∧ FinS R W α1 H1 Dn (k d env h1)) := by
  unfold sOf at fi
  cases er : fe env h with
  | ok d h1 => rw [er] at fi; exact fun α1 H1 v x1 rh1 r1 => ⟨d, α1, h1, rfl, x1, rh1, r1, FinS.mono (r := k d env h1) fi x1⟩
  | ex x h1 => rw [er] at fi; exact fun α1 H1 cls dd x1 rh1 r1 => fi α1 H1 σ cls dd x1 rh1 (re.ext x1) r1
  | no => rw [er] at fi; exact fi
theorem finS_tst {ft : Ft} {σ : St} {α : List Addr} {H : Hp} {Dn : Ends} {env : En} {h : Hd} {k : Bool → Fs} (re : RelEnv R α H env σ) (fi : FinS R W α H Dn (sTst ft k env h)) :
    FinT R W α H σ (ft env h) (fun v H1 => ∃ α1 h1, ft env h = .ok v h1 ∧ Ext α H α1 H1 ∧ RH R α1 h1 H1 ∧ FinS R W α1 H1 Dn (k v env h1)) := by
  unfold sTst at fi
  cases er : ft env h with
  | ok d h1 =>
    rw [er] at fi
    intro α1 H1 v x1 rh1 r1
    have r1 : d = v := r1
    subst r1
    exact ⟨α1, h1, rfl, x1, rh1, FinS.mono (r := k d env h1) fi x1⟩
  | ex x h1 => rw [er] at fi; exact fun α1 H1 cls dd x1 rh1 r1 => fi α1 H1 σ cls dd x1 rh1 (re.ext x1) r1
  | no => rw [er] at fi; exact fi
theorem dss_nil : DSs X R W [] sNil := ⟨fun pins s σ H D I h => pss_nil.run pins s σ H D I (by
  obtain ⟨α, env, hp, re, rh, fi⟩ := h
  exact fi α H σ .refl rh re)⟩
theorem dss_cons (h1 : DS X R W st f) (h2 : DSs X R W rest g) : DSs X R W (st :: rest) (sSeq f g) := by
  refine ⟨fun pins s σ H D I h => (pss_cons h1 h2).run pins s σ H D I ?_⟩
  obtain ⟨α, env, hp, re, rh, fi⟩ := h
  refine ⟨α, env, hp, re, rh, ?_⟩
  unfold sSeq at fi
  cases er : f env hp with
  | nx env1 h1 => rw [er] at fi; exact fun α1 H1 σ1 x1 rh1 re1 => ⟨α1, env1, h1, re1, rh1, FinS.mono (r := g env1 h1) fi x1⟩
  | rt d h1 => rw [er] at fi; exact fi
  | bk d h1 => rw [er] at fi; exact fi
  | ct d h1 => rw [er] at fi; exact fi
  | ex d en h1 => rw [er] at fi; exact fi
  | no => rw [er] at fi; exact fi
theorem dss_one (h1 : DS X R W st f) : DSs X R W [st] f := pss_one h1
theorem ds_expr (he : DE X R W e fe) (hs : swapsWith e none pos.line X.env = pure false := by rfl) : DS X R W (.Expr e pos) (sExpr fe) := by
  refine ⟨fun pins s σ H D I h => (ps_expr he hs).run pins s σ H D I ?_⟩
  obtain ⟨α, env, hp, re, rh, fi⟩ := h
  refine ⟨α, env, hp, re, rh, (finS_of re fi).imp fun v H1 hq => ?_⟩
  obtain ⟨d, α1, h1, _, x1, rh1, r1, f1⟩ := hq
  exact f1 α1 H1 σ .refl rh1 (re.ext x1)
theorem ds_ret (he : DE X R W e fe) : DS X R W (.Return (some e) pos) (sRet fe) := by
  refine ⟨fun pins s σ H D I h => (ps_ret he).run pins s σ H D I ?_⟩
  obtain ⟨α, env, hp, re, rh, fi⟩ := h
  refine ⟨α, env, hp, re, rh, (finS_of re fi).imp fun v H1 hq => ?_⟩
  obtain ⟨d, α1, h1, _, x1, rh1, r1, f1⟩ := hq
  exact f1 α1 H1 v .refl rh1 r1
theorem ds_retN : DS X R W (.Return none pos) sRetN := by
  refine ⟨fun pins s σ H D I h => ps_retN.run pins s σ H D I ?_⟩
  obtain ⟨α, env, hp, re, rh, fi⟩ := h
  exact fi α H .non .refl rh .non
theorem ds_pass : DS X R W (.Pass pos) sNil := by
  refine ⟨fun pins s σ H D I h => ps_pass.run pins s σ H D I ?_⟩
  obtain ⟨α, env, hp, re, rh, fi⟩ := h
  exact fi α H σ .refl rh re
theorem ds_break : DS X R W (.Break pos) sBrk := by
  refine ⟨fun pins s σ H D I h => ps_break.run pins s σ H D I ?_⟩
  obtain ⟨α, env, hp, re, rh, fi⟩ := h
  exact fi α H σ .refl rh re
theorem ds_cont : DS X R W (.Continue pos) sCont := by
  refine ⟨fun pins s σ H D I h => ps_continue.run pins s σ H D I ?_⟩
  obtain ⟨α, env, hp, re, rh, fi⟩ := h
  exact fi α H σ .refl rh re
theorem ds_if {c : Expr} {a b : List Stmt} {fc : Ft} (hc : DT X R W c fc) (ha : DSs X R W a f) (hb : DSs X R W b g) : DS X R W (.If c a b pos) (sIf fc f g) := by
  refine ⟨fun pins s σ H D I h => (ps_if hc ha hb).run pins s σ H D I ?_⟩
  obtain ⟨α, env, hp, re, rh, fi⟩ := h
  refine ⟨α, env, hp, re, rh, (finS_tst re fi).imp fun v H1 hq => ?_⟩
  obtain ⟨α1, h1, _, x1, rh1, f1⟩ := hq
  cases v with
  | true => exact ⟨α1, env, h1, re.ext x1, rh1, f1⟩
  | false => exact ⟨α1, env, h1, re.ext x1, rh1, f1⟩
theorem ds_asg {tg : Expr} {ts : List Nat} {fg : Fg} (he : DE X R W e fe) (hg : DG X R tg ts fg) (hs : swapsWithSole [tg] e pos.line X.env = pure false := by rfl) (hw : swappedStores [tg] e X.env = pure none := by rfl)
    (h1 : (assignEach [tg] X.env).map (·.2) = [assign tg X.env] := by rfl) : DS X R W (.Assign [tg] e pos) (sAsg fe fg) := by
  refine ⟨fun pins s σ H D I h => (ps_asg he hg hs hw h1).run pins s σ H D I ?_⟩
  obtain ⟨α, env, hp, re, rh, fi⟩ := h
  refine ⟨α, env, hp, re, rh, (finS_of re fi).imp fun v H1 hq => ?_⟩
  obtain ⟨d, α1, h1, _, x1, rh1, r1, f1⟩ := hq
  refine ⟨α1, env, h1, d, re.ext x1, rh1, r1, ?_⟩
  cases eg : fg d env h1 with
  | none =>
    have f1 : FinS R W α1 H1 D (match fg d env h1 with
      | some (env1, h1) => .nx env1 h1
      | none => .no) := f1
    rw [eg] at f1
    exact f1
  | some p =>
    obtain ⟨env2, hp2⟩ := p
    have f1 : FinS R W α1 H1 D (match fg d env h1 with
      | some (env1, h1) => .nx env1 h1
      | none => .no) := f1
    rw [eg] at f1
    exact fun α2 H2 s2 x2 rh2 re2 _ => f1 α2 H2 s2 x2 rh2 re2
theorem ds_set (i : Nat) {x : Str} {pos' : Pos} (hN : X.N.Nodup) (he : DE X R W e fe) (hi : X.N[i]? = some x := by rfl) (hx : Loc X.env.scope x := by first | exact Or.inl rfl | exact Or.inr rfl) (hs : swapsWith e (some (.Name x pos')) pos.line X.env = pure false := by rfl)
    (hf : X.fn x = true ∨ X.env.scope.names.lookup x = some .local := by first | exact .inl rfl | exact .inr rfl | assumption) : DS X R W (.Assign [.Name x pos'] e pos) (sAsg fe (gSet i)) := by
  refine ⟨fun pins s σ H D I h => (ps_set (i := i) hN hi hx he hs hf).run pins s σ H D I ?_⟩
  obtain ⟨α, env, hp, re, rh, fi⟩ := h
  refine ⟨α, env, hp, re, rh, (finS_of re fi).imp fun v H1 hq => ?_⟩
  obtain ⟨d, α1, h1, _, x1, rh1, r1, f1⟩ := hq
  have f1 : FinS R W α1 H1 D (match gSet i d env h1 with
    | some (env1, h1) => .nx env1 h1
    | none => .no) := f1
  unfold gSet at f1
  split at f1
  · rename_i he
    split at he
    · cases he
      exact f1 α1 H1 _ .refl rh1 ((re.ext x1).set r1)
    · cases he
  · exact (show False from f1).elim
end
/-! ### argument lists and displays -/
@[simp] def aNil : Fa := fun _ h => .ok [] h
@[simp] def aCons (f : Fe) (g : Fa) : Fa := fun env h => (f env h).bind fun x h1 => (g env h1).bind fun xs h2 => .ok (x :: xs) h2
@[simp] def eTup (f : Fa) : Fe := fun env h => (f env h).bind fun xs h1 => if xs.length ≤ 16777216 then .ok (.tup xs) h1 else .no
@[simp] def eLst (f : Fa) : Fe := fun env h => (f env h).bind fun xs h1 => if xs.length ≤ 16777216 then .ok (.ref h1.length) (h1 ++ [.lst xs]) else .no
section
variable {X : Cx} {R : Rx} {W : WX} {pos : Pos} {e : Expr} {es : List Expr} {fe : Fe} {fa : Fa}
theorem da_nil : DA X R W [] aNil := by
  refine ⟨fun pos pins s σ H Q I h => pa_nil.run pos pins s σ H Q I ?_⟩
  obtain ⟨α, env, hp, re, rh, fi⟩ := h
  exact fi α H [] .refl rh .nil
theorem da_cons (ha : DE X R W e fe) (hr : DA X R W es fa) (hs : starEach (e :: es) X.env = (false, eval e X.env) :: starEach es X.env := by rfl) : DA X R W (e :: es) (aCons fe fa) := by
  refine ⟨fun pos pins s σ H Q I h => (pa_cons ha hr hs).run pos pins s σ H Q I ?_⟩
  obtain ⟨α, env, hp, re, rh, fi⟩ := h
  refine ⟨α, env, hp, re, rh, (Fin.split fi).imp fun v H1 hq => ?_⟩
  obtain ⟨d, α1, h1, _, x1, rh1, r1, f1⟩ := hq
  refine ⟨α1, env, h1, re.ext x1, rh1, (Fin.split f1).imp fun vs H2 hq => ?_⟩
  obtain ⟨ds, α2, h2, _, x2, rh2, r2, f2⟩ := hq
  exact f2 α2 H2 _ .refl rh2 (.cons (RelD.ext x2 _ _ r1) r2)
theorem new_tup {α : List Addr} {H : Hp} {h : Hd} {xs : List D} {vs : List V} {p : Addr} (rh : RH R α h H) (r : RelDs R α H xs vs) (hp : H p = none) :
    Ext α H α (upd H p (.tup vs)) ∧ RH R α h (upd H p (.tup vs)) ∧ RelD R α (upd H p (.tup vs)) (.tup xs) (.ref p) :=
  ⟨Ext.side hp, rh.side hp, .tup (SqT.of upd_same) (RelDs.ext (Ext.side hp) _ _ r)⟩
theorem new_lst {α : List Addr} {H : Hp} {h : Hd} {xs : List D} {vs : List V} {p : Addr} (rh : RH R α h H) (r : RelDs R α H xs vs) (hp : H p = none) :
    Ext α H (α ++ [p]) (upd H p (.lst vs)) ∧ RH R (α ++ [p]) (h ++ [.lst xs]) (upd H p (.lst vs)) ∧ RelD R (α ++ [p]) (upd H p (.lst vs)) (.ref h.length) (.ref p) :=
  ⟨Ext.new hp, rh.new hp ⟨vs, upd_same, RelDs.ext (Ext.new hp) _ _ r⟩, .ref rh.new_at⟩
theorem lineEq : (sizeLine : Nat) = 16777216 := sizeLine_eq
theorem de_tup {k} (h : DA X R W es fa) : DE X R W (.Tuple es k pos) (eTup fa) := by
  refine ⟨fun pins s σ H Q I q => (pe_tup h).run pins s σ H Q I ?_⟩
  obtain ⟨α, env, hp, re, rh, fi⟩ := q
  refine ⟨α, env, hp, re, rh, (Fin.split fi).imp fun v H1 hq => ?_⟩
  obtain ⟨d, α1, h1, _, x1, rh1, r1, f1⟩ := hq
  split at f1
  · rename_i hl
    refine ⟨by rw [← r1.length, lineEq]; exact hl, fun p hp => ?_⟩
    obtain ⟨a, b, c⟩ := new_tup rh1 r1 hp
    exact f1 α1 _ _ a b c
  · exact (show False from f1).elim
theorem de_lst (h : DA X R W es fa) : DE X R W (.List es pos) (eLst fa) := by
  refine ⟨fun pins s σ H Q I q => (pe_lst h).run pins s σ H Q I ?_⟩
  obtain ⟨α, env, hp, re, rh, fi⟩ := q
  refine ⟨α, env, hp, re, rh, (Fin.split fi).imp fun v H1 hq => ?_⟩
  obtain ⟨d, α1, h1, _, x1, rh1, r1, f1⟩ := hq
  split at f1
  · rename_i hl
    refine ⟨by rw [← r1.length, lineEq]; exact hl, fun p hp => ?_⟩
    obtain ⟨a, b, c⟩ := new_lst rh1 r1 hp
    exact f1 _ _ _ a b c
  · exact (show False from f1).elim
end
end Mi

set_option Elab.async false
set_option linter.all false
set_option maxRecDepth 100000
set_option maxHeartbeats 1000000
namespace Mi
open PySem PySem.Spec PyProof.Rows L2

/-! ### what is walked -/
inductive Nx where
  | item (d : D) | stop | bad
abbrev Src := Hd → Nat → Nx
abbrev Fi := En → Hd → Res Src
def RelI (R : Rx) (α : List Addr) (H : Hp) (s : Src) (J : It) : Prop := ∀ α' H' h' i, Ext α H α' H' → RH R α' h' H' → match s h' i with
  | .item d => J.go i H' ∧ ∀ x H'', J.yld i H' x H'' → Ext α' H' α' H'' ∧ RH R α' h' H'' ∧ RelD R α' H'' d x
  | .stop => J.stop i H'
  | .bad => True
def tI (R : Rx) (W : WX) (f : Fi) : TI := fun σ H Q => ∃ α env h, RelEnv R α H env σ ∧ RH R α h H ∧ Fin (RelI R) R W α H σ (f env h) Q
abbrev DI (X : Cx) (R : Rx) (W : WX) (tg iter : Expr) (f : Fi) : Prop := PI X tg iter (tI R W f)
theorem RelI.mono {R : Rx} {α α1 : List Addr} {H H1 : Hp} {s : Src} {J : It} (r : RelI R α H s J) (e : Ext α H α1 H1) : RelI R α1 H1 s J := fun α' H' h' i x => r α' H' h' i (e.trans x)
/-- a value walked: a tuple, a list -/
def fixS (xs : List D) : Src := fun _ i => match xs[i]? with
  | some d => .item d
  | none => .stop
def liveS (n : Nat) : Src := fun h i => match h[n]? with
  | some (.lst xs) => fixS xs h i
  | some (.fro xs) => fixS xs h i
  | _ => .bad
def rngS (lo : Int) (n : Nat) (c : Int) : Src := fun _ i => if i < n then .item (.int (lo + (i : Nat) * c)) else .stop
/-- each item with its number -/
def enmS (s : Src) : Src := fun h i => match s h i with
  | .item d => .item (.tup [.int (i : Nat), d])
  | .stop => .stop
  | .bad => .bad
@[simp] def walk1 : D → Hd → Res Src := fun d h => match d with
  | .tup xs => .ok (fixS xs) h
  | .ref n => (match h[n]? with
    | some (.lst _) => .ok (liveS n) h
    | some (.fro _) => .ok (liveS n) h
    | _ => .no)
  | _ => .no
@[simp] def iOf (f : Fe) : Fi := fun env h => (f env h).bind walk1
@[simp] def iEnm (f : Fe) : Fi := fun env h => (f env h).bind fun d h1 => (walk1 d h1).bind fun s h2 => .ok (enmS s) h2
section
variable {X : Cx} {R : Rx} {W : WX} {pos : Pos} {tg e : Expr} {fe : Fe}
theorem rel_fix {α : List Addr} {H : Hp} {a : Addr} {xs : List D} {vs : List V} (hq : SqT R.K H a vs) (r : RelDs R α H xs vs) : RelI R α H (fixS xs) (Itt R.K a) := by
  intro α' H' h' i x rh
  unfold fixS
  have hq' := x.sqT hq
  cases e : xs[i]? with
  | some d =>
    obtain ⟨v, ev, rv⟩ := (RelDs.ext x _ _ r).get e
    exact ⟨⟨vs, v, hq', ev⟩, fun y H'' hy => by
      obtain ⟨rfl, hy⟩ := hy
      have := hy vs hq'
      rw [ev] at this
      cases this
      exact ⟨.refl, rh, rv⟩⟩
  | none =>
    refine ⟨vs, hq', ?_⟩
    rw [← r.length]
    exact List.getElem?_eq_none_iff.mp e
theorem lst_of {α : List Addr} {H : Hp} {h : Hd} {n : Nat} {a : Addr} {xs : List D} (rh : RH R α h H) (ha : α[n]? = some a) (e : h[n]? = some (.lst xs) ∨ h[n]? = some (.fro xs)) : ∃ vs, SqL R.K H a vs ∧ RelDs R α H xs vs := by
  obtain ⟨o, eo, ro⟩ := rh.at ha
  rcases e with e | e
  · rw [e] at eo
    cases eo
    obtain ⟨vs, q, r⟩ := ro
    exact ⟨vs, SqL.of q, r⟩
  · rw [e] at eo
    cases eo
    obtain ⟨vs, ob, q, r⟩ := ro
    exact ⟨vs, .inl (.inr ⟨ob, q⟩), r⟩
theorem rel_live {α : List Addr} {H : Hp} {n : Nat} {a : Addr} (ha : α[n]? = some a) : RelI R α H (liveS n) (Itl R.K a) := by
  intro α' H' h' i x rh
  have go : ∀ xs, (h'[n]? = some (.lst xs) ∨ h'[n]? = some (.fro xs)) → match fixS xs h' i with
      | .item d => (Itl R.K a).go i H' ∧ ∀ x H'', (Itl R.K a).yld i H' x H'' → Ext α' H' α' H'' ∧ RH R α' h' H'' ∧ RelD R α' H'' d x
      | .stop => (Itl R.K a).stop i H'
      | .bad => True := fun xs hx => by
    obtain ⟨vs, hq, r⟩ := lst_of rh (x.get ha) hx
    unfold fixS
    cases e : xs[i]? with
    | some d =>
      obtain ⟨v, ev, rv⟩ := r.get e
      exact ⟨⟨vs, v, hq, ev⟩, fun y H'' hy => by
        obtain ⟨rfl, hy⟩ := hy
        have := hy vs hq
        rw [ev] at this
        cases this
        exact ⟨.refl, rh, rv⟩⟩
    | none =>
      refine ⟨vs, hq, ?_⟩
      rw [← r.length]
      exact List.getElem?_eq_none_iff.mp e
  unfold liveS
  cases e : h'[n]? with
  | none => trivial
  | some o =>
    cases o with
    | lst xs => exact go xs (.inl e)
    | fro xs => exact go xs (.inr e)
    | dic kvs => trivial
theorem rel_rng {α : List Addr} {H : Hp} {lo : Int} {n : Nat} : RelI R α H (rngS lo n 1) (Itr lo n) := by
  intro α' H' h' i x rh
  unfold rngS
  by_cases hi : i < n
  · rw [if_pos hi]
    exact ⟨hi, fun y H'' hy => by
      obtain ⟨rfl, rfl⟩ := hy
      rw [Int.mul_one]
      exact ⟨.refl, rh, .int⟩⟩
  · rw [if_neg hi]
    exact Nat.le_of_not_lt hi
theorem rel_rngC {α : List Addr} {H : Hp} {lo c : Int} {n : Nat} : RelI R α H (rngS lo n c) (Itc lo c n) := by
  intro α' H' h' i x rh
  unfold rngS
  by_cases hi : i < n
  · rw [if_pos hi]
    exact ⟨hi, fun y H'' hy => by
      obtain ⟨rfl, rfl⟩ := hy
      exact ⟨.refl, rh, .int⟩⟩
  · rw [if_neg hi]
    exact Nat.le_of_not_lt hi
/-- a list or a tuple -/
theorem pie_walk {pins : List (Addr × Obj)} {σ : St} {H1 : Hp} {s1 : Shared} {v : V} {u : Value} {d : D} {α1 : List Addr} {h1 : Hd} {Q : It → Hp → Prop} (hK : R.K = X.K) (I1 : Inv X pins σ H1 s1) (r1 : RelV v u) (rh1 : RH R α1 h1 H1) (rd1 : RelD R α1 H1 d v)
    (f1 : Fin (RelI R) R W α1 H1 σ (walk1 d h1) Q) : wpAny (model X.prog X.w) X.A (pyIter u) (PIE X pins σ tg Q) X.xe s1 := by
  cases d with
  | tup xs =>
    obtain ⟨a, vs, ev, hq, rs⟩ := rd1.tup_inv
    subst ev
    cases r1
    obtain ⟨its, rv, p, hz⟩ := I1.tuple (hK ▸ hq)
    refine wpAny_pyIter_tuple (show s1.heap.IsTuple a its.toArray from p) ?_
    refine ⟨s1.heap.objs.size, [s1.heap.objs.size], _, _, H1, rfl, I1.kept (t' := s1.toks) fun b o e => Heap.get?_push_of_some _ e, turn_tuple a _, ⟨_, Heap.get?_push_size _ rfl, rfl, rfl⟩, fun b hb => ?_, f1 α1 H1 _ .refl rh1 (hK ▸ rel_fix hq rs)⟩
    have e : b = s1.heap.objs.size := by simpa using hb
    subst e
    exact I1.fpOk (Nat.le_refl _) (I1.hok.fresh (Nat.le_refl _))
  | ref n =>
    obtain ⟨a, ea, ev⟩ := rd1.ref_inv
    subst ev
    cases r1
    have lives : ∀ xs, (h1[n]? = some (.lst xs) ∨ h1[n]? = some (.fro xs)) → walk1 (.ref n) h1 = .ok (liveS n) h1 → wpAny (model X.prog X.w) X.A (pyIter (.ref a)) (PIE X pins σ tg Q) X.xe s1 := fun xs hx ew => by
      rw [ew] at f1
      obtain ⟨vs, hq, rs⟩ := lst_of rh1 ea hx
      obtain ⟨its, rv, p, hz⟩ := I1.list (hK ▸ hq)
      refine wpAny_pyIter_list p.isList ?_
      refine ⟨s1.heap.objs.size, [s1.heap.objs.size], _, _, H1, rfl, I1.kept (t' := s1.toks) fun b o e => Heap.get?_push_of_some _ e, turn_list a _, ⟨_, Heap.get?_push_size _ rfl, rfl, rfl⟩, fun b hb => ?_, f1 α1 H1 _ .refl rh1 (hK ▸ rel_live ea)⟩
      have e : b = s1.heap.objs.size := by simpa using hb
      subst e
      exact I1.fpOk (Nat.le_refl _) (I1.hok.fresh (Nat.le_refl _))
    unfold walk1 at f1 lives
    dsimp only at f1 lives
    cases e : h1[n]? with
    | none => rw [e] at f1; exact f1.elim
    | some o =>
      cases o with
      | lst xs => exact lives xs (.inl e) (by rw [e])
      | fro xs => exact lives xs (.inr e) (by rw [e])
      | dic kvs => rw [e] at f1; exact f1.elim
  | _ => exact (show False from f1).elim
theorem di_of (hK : R.K = X.K) (he : DE X R W e fe) : DI X R W tg e (iOf fe) := by
  refine ⟨fun pins s σ H Q I h => ?_⟩
  obtain ⟨α, env, hp, re, rh, fi⟩ := h
  refine thn (he.run pins s σ H _ I ⟨α, env, hp, re, rh, Fin.split (g := walk1) fi⟩) fun u s1 ⟨v, H1, I1, r1, q1⟩ => ?_
  obtain ⟨d, α1, h1, _, x1, rh1, rd1, f1⟩ := q1
  exact pie_walk hK I1 r1 rh1 rd1 f1
end

/-! ### enumerate -/
/-- the tuple at a, each item in a new pair -/
def IteT (K : PySem.W.Frag) (a : Addr) : It :=
  ⟨fun i H => ∃ (xs : List V) (x : V), SqT K H a xs ∧ xs[i]? = some x, fun i H v H' => ∃ T x, v = .ref T ∧ H T = none ∧ H' = upd H T (.tup [.int (i : Nat), x]) ∧ ∀ xs, SqT K H a xs → xs[i]? = some x, fun i H => ∃ xs : List V, SqT K H a xs ∧ xs.length ≤ i⟩
theorem turn_enumT {P : Program} {w : World} {K : PySem.W.Frag} {elts : List Expr} {kk : Nat} {tpos : Pos} (a e it : Addr) :
    Turn P w K (.Tuple elts kk tpos) (IteT K a) [e, it] e (fun i h => (∃ old, IsEnum h e it ((i : Nat) : Int) old) ∧ h.IsTupleIter it a i ∧ e ≠ it) where
  mem := by simp
  obj := fun i h st b hb => by
    obtain ⟨⟨old, he⟩, ⟨o, ho, hc, hd⟩, _⟩ := st
    have e' : b = e ∨ b = it := by simpa using hb
    rcases e' with z | z
    · rw [z]; exact ⟨_, he, fun v q => nomatch q⟩
    · rw [z]; exact ⟨o, ho, fun v q => by rw [hd] at q; cases q⟩
  keep := fun i h h' st k => let ⟨⟨old, he⟩, hi, hne⟩ := st; ⟨⟨old, k e (by simp) _ he⟩, hi.at fun o q => k it (by simp) o q, hne⟩
  item := by
    intro X hP hw hK hc i pins s σ H E I hf st hg
    subst hP hw hK
    obtain ⟨⟨old, he⟩, hit, hne⟩ := st
    obtain ⟨xs, x, hq, hx⟩ := hg
    obtain ⟨its, rv, p, hz⟩ := I.tuple hq
    obtain ⟨u, hu, ru⟩ := rv.get hx
    have hel : e < s.heap.objs.size := Heap.lt_size he
    have hil : it < s.heap.objs.size := by obtain ⟨_, q, _⟩ := hit; exact Heap.lt_size q
    obtain ⟨oi, hoi, hci, hdi⟩ := id hit
    obtain ⟨oa, hoa, hca, na, hda⟩ := id (show s.heap.IsTuple a its.toArray from p)
    have hae : e ≠ a := fun z => by
      rw [← z, he] at hoa
      cases hoa
      exact absurd hca (by simp)
    have hai : a ≠ it := fun z => by
      rw [z, hoi] at hoa
      cases hoa
      rw [hci] at hca
      exact absurd hca (by simp)
    have DR := Draws.tuple (prog := X.prog) (w := X.w) (A := X.A.in1) (I.ok.hd hc) it a hai its.toArray
    have hlt : i < its.toArray.size := by
      have := (List.getElem?_eq_some_iff.mp hu).1
      simpa using this
    refine wpAny_pyNext_enum_itemC DR he ⟨hit, p⟩ hlt hne (by simp [hne, hae]) fun y h' tk hP ho hst' hT hsz hk => ?_
    have ey : y = u := by
      have hP : its.toArray[i]? = some y := hP
      rw [List.getElem?_toArray, hu] at hP
      exact (Option.some.inj hP).symm
    subst ey
    have hit' := hst'.1
    refine ⟨_, rfl, wpAny_letOwnedTupleGo_enum (s := { s with heap := h', toks := tk + 1 }) ho fun h'' he' sb => ?_⟩
    have hT2 : h''.get? s.heap.objs.size = some { cls := .type "tuple", data := .seq #[.int i tk, y] } := (sb.2 _ (Nat.ne_of_gt hel)).trans hT
    have new : ObjOk X.prog X.w (upd H s.heap.objs.size (.tup [.int (i : Nat), x])) h'' s.heap.objs.size (.tup [.int (i : Nat), x]) :=
      ⟨by show 2 ≤ sizeLine; decide, [.int i tk, y], .cons ⟨_, rfl⟩ (.cons ru .nil), ⟨_, hT2, rfl, _, rfl⟩⟩
    have I1 : Inv X pins σ (upd H s.heap.objs.size (.tup [.int (i : Nat), x])) { s with heap := h'', toks := tk + 1 } :=
      I.turnedNew (ch := [e, it]) (fun b ob hb q => (sb.2 b (fun z => hb (by simp [z]))).trans (hk b ob (fun z => hb (by simp [z])) (fun z => hb (by simp [z])) q)) hf (Nat.le_refl _) new
    refine ⟨.ref s.heap.objs.size, _, I1, rfl, ⟨_, x, rfl, I.hok.fresh (Nat.le_refl _), rfl, fun ys hy => by rw [I.tuple_inj hy hq]; exact hx⟩, ⟨⟨y, ?_⟩, hit'.at fun o q => (sb.2 it (Ne.symm hne)).trans q, hne⟩, fun b hb => ?_⟩
    · have e1 : ((i + 1 : Nat) : Int) = (i : Int) + 1 := by omega
      rw [e1]; exact he'
    · have hb' : b < s.heap.objs.size := by
        have e' : b = e ∨ b = it := by simpa using hb
        rcases e' with z | z
        · rw [z]; exact hel
        · rw [z]; exact hil
      rw [upd_ne (Nat.ne_of_lt hb')]
      exact (hf b hb).1
  done := by
    intro X hP hw hK hc i pins s σ H E I hf st hg
    subst hP hw hK
    obtain ⟨⟨old, he⟩, hit, hne⟩ := st
    obtain ⟨xs, hq, hx⟩ := hg
    obtain ⟨its, rv, p, hz⟩ := I.tuple hq
    obtain ⟨f0, f1, f2, f3, f4, f5⟩ := hf it (by simp)
    have hl := rv.length
    obtain ⟨oi, hoi, hci, hdi⟩ := id hit
    obtain ⟨oa, hoa, hca, na, hda⟩ := id (show s.heap.IsTuple a its.toArray from p)
    have hai : a ≠ it := fun z => by
      rw [z, hoi] at hoa
      cases hoa
      rw [hci] at hca
      exact absurd hca (by simp)
    have hT : s.TypeIs (.ref e) "enumerate" := ⟨_, he, rfl⟩
    unfold pyNext
    refine wpAny_bind (wpAny_attempt (wpAny_callSpecial?_slot (name := Str.ofString "__next__") hT F.slot_enumerate_next
      (wpAny_call_entry F.slot_enumerate_next hT F.entry_enumerate_next ?_ (F.args_enumerate_next_1 _))))
    show wpAny _ _ (field (.ref e) 2 >>= _) _ _ _
    refine wpAny_bind (wpAny_field he rfl (x := .ref it) rfl ?_)
    refine wpAny_bind (wpAny_nextOf_tuple_end (I.ok.hd hc) hit (show s.heap.IsTuple a its.toArray from p) (by simp; omega) fun h' x he' hx' => ?_)
    obtain ⟨o, ho, hc⟩ := hx'
    refine wpAny_bind (wpAny_isInstance (T := "StopIteration") (b := true) ⟨o, ho, hc⟩ isSubtype_stop ?_)
    exact wpAny_pure ⟨rfl, I.turned (t' := s.toks) (fun b o hb q => he' b o hb q) f0 f1 f3 f4 f5⟩
  self := fun A i s Q E st h => let ⟨⟨_, he⟩, _⟩ := st; wpAny_pyIter_enum he h
set_option maxHeartbeats 1000000 in
theorem meets_enumerate_newB1 {v : Value} {o : Obj} {H : Heap → Prop} (B : Begins v o H) :
    Meets (Builtin.«enumerate.__new__» ⟨[.type "enumerate", v], []⟩) (fun _ R s => H s.heap ∧
      R (.ok (.ret (.ref (s.heap.push o).objs.size))) { s with heap := (s.heap.push o).push { cls := .type "enumerate", data := .fields #[.none, .bool false, .ref s.heap.objs.size, rawInt 0, .none, .none] } }) :=
  .of_wp fun prog w A R s h => by
    obtain ⟨hp, g, d, tk, os⟩ := s; obtain ⟨h1, h⟩ := h
    have hsub := sub_enumerate
    have q1 : ∀ {A' : Around} {E : Value → Shared → Prop} {Q : Value → Shared → Prop}, Q (.ref hp.objs.size) ⟨hp.push o, g, d, tk, os⟩ → wpAny (model prog w) A' (pyIter v) Q E ⟨hp, g, d, tk, os⟩ :=
      fun q => B.iter prog w _ _ ⟨hp, g, d, tk, os⟩ _ h1 q
    wp_walk using q1
    refine wpAny_stack_any fun st => wpAny_pure ?_
    split
    · rename_i c _ _ _ _ _
      cases (c == Value.type "enumerate")
      · wp_walk using q1
        exact ⟨_, rfl, h⟩
      · wp_walk using q1
        exact ⟨_, rfl, h⟩
    · wp_walk using q1
      exact ⟨_, rfl, h⟩
theorem call_enum_begins {prog : Program} {w : World} {A : Around} {E : Value → Shared → Prop} {s : Shared} {v : Value} {o : Obj} {H : Heap → Prop} {Q : Value → Shared → Prop} (B : Begins v o H) (h1 : H s.heap)
    (h : ∀ h', IsEnum h' (s.heap.objs.size + 1) s.heap.objs.size 0 .none → h'.get? s.heap.objs.size = some o → h'.objs.size = s.heap.objs.size + 2 →
      (∀ b o, s.heap.get? b = some o → h'.get? b = some o) → Q (.ref (s.heap.objs.size + 1)) { s with heap := h' }) :
    wpAny (model prog w) A (call (.type "enumerate") [v]) Q E s := by
  refine callType_new F.called_enumerate (by decide) (F.typeCall_enumerate_1 _) (F.newCall_enumerate_1 _) (fun obj => F.args_object_init_2 obj _) F.entry_enumerate_new
    (meets_enumerate_newB1 B) ⟨h1, ?_⟩
  have hz : (s.heap.push o).objs.size = s.heap.objs.size + 1 := Heap.size_push ..
  show _ ∧ _
  rw [hz]
  have he : IsEnum ((s.heap.push o).push { cls := .type "enumerate", data := .fields #[.none, .bool false, .ref s.heap.objs.size, rawInt 0, .none, .none] }) (s.heap.objs.size + 1) s.heap.objs.size 0 .none := by
    have := Heap.get?_push_size (s.heap.push o) (o := { cls := .type "enumerate", data := .fields #[.none, .bool false, .ref s.heap.objs.size, rawInt 0, .none, .none] }) rfl
    rw [hz] at this; exact this
  refine ⟨⟨_, he, rfl⟩, h _ he (Heap.get?_push_of_some _ (Heap.get?_push_size _ B.free)) (by rw [Heap.size_push, hz]) fun b o x => Heap.get?_push_of_some _ (Heap.get?_push_of_some _ x)⟩
end Mi

set_option Elab.async false
set_option linter.all false
set_option maxRecDepth 100000
set_option maxHeartbeats 1000000
namespace Mi
open PySem PySem.Spec PyProof.Rows L2
section
variable {R : Rx}
theorem rel_enm {α : List Addr} {H : Hp} {n : Nat} {a : Addr} (ha : α[n]? = some a) : RelI R α H (enmS (liveS n)) (Ite R.K a) := by
  intro α' H' h' i x rh
  have go : ∀ xs, (h'[n]? = some (.lst xs) ∨ h'[n]? = some (.fro xs)) → match (match fixS xs h' i with
      | .item d => Nx.item (.tup [.int (i : Nat), d])
      | .stop => .stop
      | .bad => .bad) with
      | .item d => (Ite R.K a).go i H' ∧ ∀ x H'', (Ite R.K a).yld i H' x H'' → Ext α' H' α' H'' ∧ RH R α' h' H'' ∧ RelD R α' H'' d x
      | .stop => (Ite R.K a).stop i H'
      | .bad => True := fun xs hx => by
    obtain ⟨vs, hq, r⟩ := lst_of rh (x.get ha) hx
    unfold fixS
    cases e : xs[i]? with
    | some d =>
      obtain ⟨v, ev, rv⟩ := r.get e
      exact ⟨⟨vs, v, hq, ev⟩, fun y H'' hy => by
        obtain ⟨T, z, rfl, hT, rfl, hy⟩ := hy
        have := hy vs hq
        rw [ev] at this
        cases this
        exact new_tup rh (.cons .int (.cons rv .nil)) hT⟩
    | none =>
      refine ⟨vs, hq, ?_⟩
      rw [← r.length]
      exact List.getElem?_eq_none_iff.mp e
  unfold enmS liveS
  cases e : h'[n]? with
  | none => trivial
  | some o =>
    cases o with
    | lst xs => exact go xs (.inl e)
    | fro xs => exact go xs (.inr e)
    | dic kvs => trivial
theorem rel_enmT {α : List Addr} {H : Hp} {a : Addr} {xs : List D} {vs : List V} (hq : SqT R.K H a vs) (r : RelDs R α H xs vs) : RelI R α H (enmS (fixS xs)) (IteT R.K a) := by
  intro α' H' h' i x rh
  unfold enmS fixS
  have hq' := x.sqT hq
  cases e : xs[i]? with
  | some d =>
    obtain ⟨v, ev, rv⟩ := (RelDs.ext x _ _ r).get e
    exact ⟨⟨vs, v, hq', ev⟩, fun y H'' hy => by
      obtain ⟨T, z, rfl, hT, rfl, hy⟩ := hy
      have := hy vs hq'
      rw [ev] at this
      cases this
      exact new_tup rh (.cons .int (.cons rv .nil)) hT⟩
  | none =>
    refine ⟨vs, hq', ?_⟩
    rw [← r.length]
    exact List.getElem?_eq_none_iff.mp e
end
section
variable {X : Cx} {R : Rx} {W : WX} {pos : Pos} {e : Expr} {fe : Fe}
theorem di_enum {elts : List Expr} {kk : Nat} {tpos p : Pos} (hK : R.K = X.K) (hg : Gl X "enumerate") (hm : X.mg "enumerate" = none) (he : DE X R W e fe) (hs : starEach [e] X.env = [(false, eval e X.env)] := by rfl) :
    DI X R W (.Tuple elts kk tpos) (.Call (.Name "enumerate" p) [e] [] pos) (iEnm fe) := by
  refine ⟨fun pins s σ H Q I h => ?_⟩
  obtain ⟨α, env, hp, re, rh, fi⟩ := h
  have ha : PA X [e] (tCons (tE R W fe) tNil) := pa_cons he pa_nil hs
  refine Call_ (ld_blt I hg hm boot_enumerate (PyProof.Rows.callWith_type1 (thn (ha.run pos pins s σ H (fun vs H1 => ∃ v, vs = [v] ∧ ∃ d α1 h1, fe env hp = Res.ok d h1 ∧ Ext α H α1 H1 ∧ RH R α1 h1 H1 ∧ RelD R α1 H1 d v ∧ Fin (RelI R) R W α1 H1 σ ((walk1 d h1).bind fun s h2 => Res.ok (enmS s) h2) Q) I
    ⟨α, env, hp, re, rh, (Fin.split (Rl := RelD R) (r := fe env hp) fi).imp fun v H1 hq => ⟨v, rfl, hq⟩⟩) fun us s1 ⟨vs, H1, I1, r1, q1⟩ => ?_) hs rfl))
  obtain ⟨v, ev, d, α1, h1, _, x1, rh1, rd1, f1⟩ := q1
  subst ev
  cases r1 with
  | cons r rr =>
  cases rr
  cases d with
  | tup xs =>
    obtain ⟨a, vs, ev, hq, rs⟩ := rd1.tup_inv
    subst ev
    cases r
    obtain ⟨its, rv, p', hz⟩ := I1.tuple (hK ▸ hq)
    refine call_enum_begins (begins_tuple a its.toArray) p' fun h' he hit hsz hk => wpAny_pyIter_enum he ?_
    have I2 : Inv X pins σ H1 { s1 with heap := h' } := I1.kept (t' := s1.toks) hk
    refine ⟨s1.heap.objs.size + 1, [s1.heap.objs.size + 1, s1.heap.objs.size], _, _, H1, rfl, I2, turn_enumT a (s1.heap.objs.size + 1) s1.heap.objs.size, ⟨⟨.none, he⟩, ⟨_, hit, rfl, rfl⟩, Nat.succ_ne_self _⟩, fun b hb => ?_, f1 α1 H1 _ .refl rh1 (hK ▸ rel_enmT hq rs)⟩
    have e' : b = s1.heap.objs.size + 1 ∨ b = s1.heap.objs.size := by simpa using hb
    have hle : s1.heap.objs.size ≤ b := by
      rcases e' with z | z
      · rw [z]; exact Nat.le_add_right _ _
      · rw [z]; exact Nat.le_refl _
    exact I1.fpOk hle (I1.hok.fresh hle)
  | ref n =>
    obtain ⟨a, ea, ev⟩ := rd1.ref_inv
    subst ev
    cases r
    have lives : ∀ xs, (h1[n]? = some (.lst xs) ∨ h1[n]? = some (.fro xs)) → walk1 (.ref n) h1 = .ok (liveS n) h1 → wpAny (model X.prog X.w) X.A (call (.type "enumerate") [.ref a]) (fun v s₁ => wpAny (model X.prog X.w) X.A (pyIter v) (PIE X pins σ (.Tuple elts kk tpos) Q) X.xe s₁) X.xe s1 := fun xs hx ew => by
      rw [ew] at f1
      obtain ⟨vs, hq, rs⟩ := lst_of rh1 ea hx
      obtain ⟨its, rv, p', hz⟩ := I1.list (hK ▸ hq)
      refine call_enum_begins (begins_list a its.toArray) p'.isList fun h' he hit hsz hk => wpAny_pyIter_enum he ?_
      have I2 : Inv X pins σ H1 { s1 with heap := h' } := I1.kept (t' := s1.toks) hk
      refine ⟨s1.heap.objs.size + 1, [s1.heap.objs.size + 1, s1.heap.objs.size], _, _, H1, rfl, I2, turn_enum a (s1.heap.objs.size + 1) s1.heap.objs.size, ⟨⟨.none, he⟩, ⟨_, hit, rfl, rfl⟩, Nat.succ_ne_self _⟩, fun b hb => ?_, f1 α1 H1 _ .refl rh1 (hK ▸ rel_enm ea)⟩
      have e' : b = s1.heap.objs.size + 1 ∨ b = s1.heap.objs.size := by simpa using hb
      have hle : s1.heap.objs.size ≤ b := by
        rcases e' with z | z
        · rw [z]; exact Nat.le_add_right _ _
        · rw [z]; exact Nat.le_refl _
      exact I1.fpOk hle (I1.hok.fresh hle)
    unfold walk1 at f1 lives
    dsimp only at f1 lives
    cases e : h1[n]? with
    | none => rw [e] at f1; exact f1.elim
    | some o =>
      cases o with
      | lst xs => exact lives xs (.inl e) (by rw [e])
      | fro xs => exact lives xs (.inr e) (by rw [e])
      | dic kvs => rw [e] at f1; exact f1.elim
  | _ => exact (show False from f1).elim

/-! ### range -/
/-- 2 ^ 62: not to be unfolded but by the kernel -/
@[irreducible] def lim62 : Int := 4611686018427387904
theorem lim62_eq : lim62 = 4611686018427387904 := by unfold lim62; rfl
def rngOk (i : Int) : Bool := decide (-lim62 ≤ i) && decide (i < lim62)
theorem rng_small {i : Int} (h1 : -1000000 ≤ i) (h2 : i ≤ 1000000) : rngOk i = true := by
  unfold rngOk
  rw [Bool.and_eq_true, decide_eq_true_eq, decide_eq_true_eq, lim62_eq]
  omega
def iRng1D (fa : Fa) : Fi := fun env h => (fa env h).bind fun ds h1 => match ds with
  | [.int j] => if rngOk j = true then .ok (rngS 0 j.toNat 1) h1 else .no
  | _ => .no
def iRng2D (fa : Fa) : Fi := fun env h => (fa env h).bind fun ds h1 => match ds with
  | [.int i, .int j] => if (rngOk i && rngOk j) = true then .ok (rngS i (j - i).toNat 1) h1 else .no
  | _ => .no
def iRng3D (fa : Fa) : Fi := fun env h => (fa env h).bind fun ds h1 => match ds with
  | [.int i, .int j, .int c] => if (rngOk i && rngOk j && decide (c = -1)) = true then .ok (rngS i (i - j).toNat (-1)) h1 else .no
  | _ => .no
theorem rngOk_of {i : Int} (h : rngOk i = true) : -(2 ^ 62) ≤ i ∧ i < 2 ^ 62 := by
  unfold rngOk at h
  rw [lim62_eq] at h
  simp only [Bool.and_eq_true, decide_eq_true_eq] at h
  have e : (2 : Int) ^ 62 = 4611686018427387904 := by decide
  rw [e]
  exact h
theorem di_rng1 {tg a : Expr} {p : Pos} {fa : Fa} (hg : Gl X "range") (hm : X.mg "range" = none) (ha : DA X R W [a] fa) (hs : starEach [a] X.env = [(false, eval a X.env)] := by rfl) : DI X R W tg (.Call (.Name "range" p) [a] [] pos) (iRng1D fa) := by
  refine ⟨fun pins s σ H Q I h => (pi_range1 (pos := pos) (p := p) hg hm ha hs).run pins s σ H Q I ?_⟩
  obtain ⟨α, env, hp, re, rh, fi⟩ := h
  refine ⟨α, env, hp, re, rh, (Fin.split fi).imp fun vs H1 hq => ?_⟩
  obtain ⟨ds, α1, h1, _, x1, rh1, rd1, f1⟩ := hq
  split at f1
  · obtain ⟨v, ev, r⟩ := rd1.one
    split at f1
    · rename_i hk
      obtain ⟨k1, k2⟩ := rngOk_of hk
      exact ⟨_, by rw [ev, r.int_inv], k1, k2, f1 α1 H1 _ .refl rh1 rel_rng⟩
    · exact f1.elim
  · exact f1.elim
theorem di_rng2 {tg a b : Expr} {p : Pos} {fa : Fa} (hg : Gl X "range") (hm : X.mg "range" = none) (ha : DA X R W [a, b] fa) (hs : starEach [a, b] X.env = [(false, eval a X.env), (false, eval b X.env)] := by rfl) (hs2 : starEach [b] X.env = [(false, eval b X.env)] := by rfl) :
    DI X R W tg (.Call (.Name "range" p) [a, b] [] pos) (iRng2D fa) := by
  refine ⟨fun pins s σ H Q I h => (pi_range2 (pos := pos) (p := p) hg hm ha hs hs2).run pins s σ H Q I ?_⟩
  obtain ⟨α, env, hp, re, rh, fi⟩ := h
  refine ⟨α, env, hp, re, rh, (Fin.split fi).imp fun vs H1 hq => ?_⟩
  obtain ⟨ds, α1, h1, _, x1, rh1, rd1, f1⟩ := hq
  split at f1
  · obtain ⟨v, v', ev, r, r'⟩ := rd1.two
    split at f1
    · rename_i hk
      rw [Bool.and_eq_true] at hk
      obtain ⟨k1, k2⟩ := rngOk_of hk.1
      obtain ⟨k3, k4⟩ := rngOk_of hk.2
      exact ⟨_, _, by rw [ev, r.int_inv, r'.int_inv], ⟨k1, k2, k3, k4⟩, f1 α1 H1 _ .refl rh1 rel_rng⟩
    · exact f1.elim
  · exact f1.elim
theorem di_rng3 {tg a b c : Expr} {p : Pos} {fa : Fa} (hg : Gl X "range") (hm : X.mg "range" = none) (ha : DA X R W [a, b, c] fa)
    (hs : starEach [a, b, c] X.env = (false, eval a X.env) :: starEach [b, c] X.env := by rfl) (hpl : (backTo pos (starEach [b, c] X.env)).any (·.1) = false := by rfl) :
    DI X R W tg (.Call (.Name "range" p) [a, b, c] [] pos) (iRng3D fa) := by
  refine ⟨fun pins s σ H Q I h => (pi_range3 (pos := pos) (p := p) hg hm ha hs hpl).run pins s σ H Q I ?_⟩
  obtain ⟨α, env, hp, re, rh, fi⟩ := h
  refine ⟨α, env, hp, re, rh, (Fin.split fi).imp fun vs H1 hq => ?_⟩
  obtain ⟨ds, α1, h1, _, x1, rh1, rd1, f1⟩ := hq
  split at f1
  · obtain ⟨v, r', ev, r1, r2⟩ := rd1.cons_inv
    obtain ⟨v', v'', ev', r3, r4⟩ := r2.two
    split at f1
    · rename_i hk
      rw [Bool.and_eq_true, Bool.and_eq_true, decide_eq_true_eq] at hk
      obtain ⟨⟨hk1, hk2⟩, hk3⟩ := hk
      obtain ⟨k1, k2⟩ := rngOk_of hk1
      obtain ⟨k3, k4⟩ := rngOk_of hk2
      subst hk3
      exact ⟨_, _, _, _, by rw [ev, ev', r1.int_inv, r3.int_inv, r4.int_inv], RgC.neg k1 k2 k3 k4, f1 α1 H1 _ .refl rh1 rel_rngC⟩
    · exact f1.elim
  · exact f1.elim
end
/-! ### for -/
def forL (src : Src) (tg : Fg) (body : Fs) : Nat → Nat → Fs
  | 0, _, _, _ => .no
  | n + 1, i, env, h => match src h i with
    | .stop => .nx env h
    | .bad => .no
    | .item d => (match tg d env h with
      | none => .no
      | some (env1, h1) => (match body env1 h1 with
        | .nx env2 h2 => forL src tg body n (i + 1) env2 h2
        | .ct env2 h2 => forL src tg body n (i + 1) env2 h2
        | .bk env2 h2 => .nx env2 h2
        | r => r))
/-- the fuel: not to be unfolded but by the kernel -/
@[irreducible] def most : Nat := 1099511627776
theorem most_eq : most = 1099511627776 := by unfold most; rfl
def sFor (it : Fi) (tg : Fg) (body : Fs) : Fs := fun env h => match it env h with
  | .ok src h1 => forL src tg body most 0 env h1
  | .ex e h1 => .ex e env h1
  | .no => .no
def whileL (c : Ft) (body : Fs) : Nat → Fs
  | 0, _, _ => .no
  | n + 1, env, h => match c env h with
    | .ok false h1 => .nx env h1
    | .ok true h1 => (match body env h1 with
      | .nx env2 h2 => whileL c body n env2 h2
      | .ct env2 h2 => whileL c body n env2 h2
      | .bk env2 h2 => .nx env2 h2
      | r => r)
    | .ex e h1 => .ex e env h1
    | .no => .no
def sWhile (c : Ft) (body : Fs) : Fs := whileL c body most
section
variable {X : Cx} {R : Rx} {W : WX} {pos : Pos} {tg iter : Expr} {body : List Stmt} {fi : Fi} {ts : List Nat} {fg : Fg} {fb : Fs}
theorem ds_for (hp : PassesOwn (model X.prog X.w) X.A X.env X.xe) (hc : X.calm = true) (hi : DI X R W tg iter fi) (hg : DG X R tg ts fg) (hb : DSs X R W body fb)
    (hs : ∀ x, foldedSetIterable iter X.env x = pure x := by intro _; rfl) : DS X R W (.For tg iter body [] pos) (sFor fi fg fb) := by
  refine ⟨fun pins s σ H Dn I h => (ps_for hp hc hi hg hb hs).run pins s σ H Dn I ?_⟩
  obtain ⟨α, env, hp, re, rh, f⟩ := h
  refine ⟨α, env, hp, re, rh, ?_⟩
  unfold sFor at f
  cases er : fi env hp with
  | no => rw [er] at f; exact f
  | ex e h1 => rw [er] at f; exact fun α1 H1 cls dd x1 rh1 r1 => f α1 H1 σ cls dd x1 rh1 (re.ext x1) r1
  | ok src h1 =>
    rw [er] at f
    intro α1 H1 J x1 rh1 rj
    have f : FinS R W α H Dn (forL src fg fb most 0 env h1) := f
    refine ⟨fun i m σ' H' => ∃ α' env' h', Ext α1 H1 α' H' ∧ RelEnv R α' H' env' σ' ∧ RH R α' h' H' ∧ FinS R W α' H' Dn (forL src fg fb m i env' h'), ⟨most, α1, env, h1, .refl, re.ext x1, rh1, f.mono x1⟩, ?_⟩
    rintro i m σ' H' ⟨α', env', h', xx, re', rh', f'⟩
    cases m with
    | zero => exact (show False from f').elim
    | succ m =>
      have rj' := rj α' H' h' i xx rh'
      unfold forL at f'
      cases es : src h' i with
      | bad => rw [es] at f'; exact (show False from f').elim
      | stop =>
        rw [es] at f' rj'
        exact .inl ⟨rj', f' α' H' σ' .refl rh' re'⟩
      | item d =>
        rw [es] at f' rj'
        refine .inr ⟨rj'.1, fun σ2 H2 => ∃ α2 env2 h2, Ext α1 H1 α2 H2 ∧ RelEnv R α2 H2 env2 σ2 ∧ RH R α2 h2 H2 ∧ FinS R W α2 H2 Dn (forL src fg fb m (i + 1) env2 h2), fun σ2 H2 hn => ⟨m, Nat.lt_succ_self m, hn⟩, fun x H2 hy => ?_⟩
        obtain ⟨x2, rh2, rd2⟩ := rj'.2 x H2 hy
        refine ⟨α', env', h', d, re'.ext x2, rh2, rd2, ?_⟩
        dsimp only at f'
        cases eg : fg d env' h' with
        | none => rw [eg] at f'; exact f'
        | some p =>
          obtain ⟨env3, h3⟩ := p
          rw [eg] at f'
          dsimp only at f'
          intro α3 H3 σ3 x3 rh3 re3 _
          refine ⟨α3, env3, h3, re3, rh3, ?_⟩
          cases eb : fb env3 h3 with
          | nx env4 h4 =>
            rw [eb] at f'
            exact fun α4 H4 σ4 x4 rh4 re4 => ⟨α4, env4, h4, ((xx.trans x2).trans x3).trans x4, re4, rh4, f'.mono ((x2.trans x3).trans x4)⟩
          | ct env4 h4 =>
            rw [eb] at f'
            exact fun α4 H4 σ4 x4 rh4 re4 => ⟨α4, env4, h4, ((xx.trans x2).trans x3).trans x4, re4, rh4, f'.mono ((x2.trans x3).trans x4)⟩
          | bk env4 h4 =>
            rw [eb] at f'
            exact fun α4 H4 σ4 x4 rh4 re4 => f' α4 H4 σ4 ((x2.trans x3).trans x4) rh4 re4
          | rt d4 h4 =>
            rw [eb] at f'
            exact fun α4 H4 v x4 rh4 re4 => f' α4 H4 v ((x2.trans x3).trans x4) rh4 re4
          | ex e4 env4 h4 =>
            rw [eb] at f'
            exact fun α4 H4 σ4 c4 d4 x4 rh4 re4 => f' α4 H4 σ4 c4 d4 ((x2.trans x3).trans x4) rh4 re4
          | no => rw [eb] at f'; exact f'
theorem ds_while {c : Expr} {fc : Ft} (hp : PassesOwn (model X.prog X.w) X.A X.env X.xe) (hc : DT X R W c fc) (hb : DSs X R W body fb) : DS X R W (.While c body [] pos) (sWhile fc fb) := by
  refine ⟨fun pins s σ H Dn I h => (ps_while hp hc hb).run pins s σ H Dn I ?_⟩
  obtain ⟨α, env, hp, re, rh, f⟩ := h
  refine ⟨fun m σ' H' => ∃ α' env' h', RelEnv R α' H' env' σ' ∧ RH R α' h' H' ∧ FinS R W α' H' Dn (whileL fc fb m env' h'), ⟨most, α, env, hp, re, rh, f⟩, ?_⟩
  rintro m σ' H' ⟨α', env', h', re', rh', f'⟩
  cases m with
  | zero => exact (show False from f').elim
  | succ m =>
    unfold whileL at f'
    refine ⟨α', env', h', re', rh', ?_⟩
    cases ec : fc env' h' with
    | no => rw [ec] at f'; exact f'
    | ex e h1 => rw [ec] at f'; exact fun α1 H1 cls dd x1 rh1 r1 => f' α1 H1 σ' cls dd x1 rh1 (re'.ext x1) r1
    | ok b h1 =>
      rw [ec] at f'
      intro α1 H1 b' x1 rh1 r1
      have r1 : b = b' := r1
      subst r1
      cases b with
      | false => exact f' α1 H1 σ' x1 rh1 (re'.ext x1)
      | true =>
        dsimp only at f'
        refine ⟨fun σ2 H2 => ∃ α2 env2 h2, RelEnv R α2 H2 env2 σ2 ∧ RH R α2 h2 H2 ∧ FinS R W α2 H2 Dn (whileL fc fb m env2 h2), fun σ2 H2 hn => ⟨m, Nat.lt_succ_self m, hn⟩, ?_⟩
        refine ⟨α1, env', h1, re'.ext x1, rh1, ?_⟩
        cases eb : fb env' h1 with
        | nx env4 h4 =>
          rw [eb] at f'
          exact fun α4 H4 σ4 x4 rh4 re4 => ⟨α4, env4, h4, re4, rh4, f'.mono (x1.trans x4)⟩
        | ct env4 h4 =>
          rw [eb] at f'
          exact fun α4 H4 σ4 x4 rh4 re4 => ⟨α4, env4, h4, re4, rh4, f'.mono (x1.trans x4)⟩
        | bk env4 h4 =>
          rw [eb] at f'
          exact fun α4 H4 σ4 x4 rh4 re4 => f' α4 H4 σ4 (x1.trans x4) rh4 re4
        | rt d4 h4 =>
          rw [eb] at f'
          exact fun α4 H4 v x4 rh4 re4 => f' α4 H4 v (x1.trans x4) rh4 re4
        | ex e4 env4 h4 =>
          rw [eb] at f'
          exact fun α4 H4 σ4 c4 d4 x4 rh4 re4 => f' α4 H4 σ4 c4 d4 (x1.trans x4) rh4 re4
        | no => rw [eb] at f'; exact f'
end
end Mi

set_option Elab.async false
set_option linter.all false
set_option maxRecDepth 100000
set_option maxHeartbeats 1000000
namespace Mi
open PySem PySem.Spec PyProof.Rows L2

/-! ### comprehensions -/
@[simp] def wipeE (env : En) : List Nat → En
  | [] => env
  | v :: vs => (wipeE env vs).set v none
def lcL (src : Src) (tg : Fg) (tst : Ft) (el : Fe) (env : En) (k : Nat) : Nat → Nat → Hd → Res D
  | 0, _, _ => .no
  | n + 1, i, h => match src h i with
    | .stop => .ok (.ref k) h
    | .bad => .no
    | .item d => (match tg d env h with
      | none => .no
      | some (env1, h1) => (match tst env1 h1 with
        | .ok false h2 => lcL src tg tst el env k n (i + 1) h2
        | .ok true h2 => (match el env1 h2 with
          | .ok y h3 => (match h3[k]? with
            | some (.lst acc) => if acc.length < 16777216 then lcL src tg tst el env k n (i + 1) (h3.set k (.lst (acc ++ [y]))) else .no
            | _ => .no)
          | _ => .no)
        | _ => .no))
def eLc (it : Fi) (tg : Fg) (tst : Ft) (el : Fe) (vs : List Nat) : Fe := fun env h => match it env h with
  | .ok src h1 => lcL src tg tst el (wipeE env vs) h1.length most 0 (h1 ++ [.lst []])
  | .ex e h1 => .ex e h1
  | .no => .no
@[simp] def tYesD : Ft := fun _ h => .ok true h
def W0 : WX := fun _ _ _ _ => False
abbrev DTs (X : Cx) (R : Rx) (W : WX) (es : List Expr) (f : Ft) : Prop := PTs X es (tT R W f)
section
variable {R : Rx} {α : List Addr} {H : Hp}
theorem RelEnv.wipe {env : En} {σ : St} (r : RelEnv R α H env σ) : ∀ vs : List Nat, RelEnv R α H (wipeE env vs) (wipe σ vs)
  | [] => r
  | v :: vs => by
    unfold wipeE L2.wipe
    exact (RelEnv.wipe r vs).clear
theorem wipe_in {σ : St} {i : Nat} : ∀ {vs : List Nat}, i ∈ vs → i < σ.length → (wipe σ vs)[i]? = some none
  | [], h, _ => by simp at h
  | v :: vs, h, hl => by
    unfold L2.wipe
    by_cases e : v = i
    · subst e
      exact List.getElem?_set_self (by rw [wipe_length]; exact hl)
    · rw [List.getElem?_set_ne e]
      exact wipe_in (by
        rcases List.mem_cons.mp h with z | z
        · exact absurd z.symm e
        · exact z) hl
theorem wipe_keep {σ s : St} {ts vs : List Nat} (k : Keep ts (wipe σ vs) s) (hs : ∀ i ∈ ts, i ∈ vs) : wipe s vs = wipe σ vs := by
  have hl : s.length = σ.length := by rw [k.1, wipe_length]
  refine List.ext_getElem? fun i => ?_
  by_cases hi : i ∈ vs
  · by_cases hb : i < σ.length
    · rw [wipe_in hi hb, wipe_in hi (by rw [hl]; exact hb)]
    · rw [List.getElem?_eq_none (by rw [wipe_length]; omega), List.getElem?_eq_none (by rw [wipe_length]; omega)]
  · rw [wipe_out hi, k.2 i (fun z => hi (hs i z))]
end
section
variable {X : Cx} {R : Rx} {W : WX} {pos : Pos}
theorem dts_nil : DTs X R W [] tYesD := by
  refine ⟨fun pins s σ H Q I h => pts_nil.run pins s σ H Q I ?_⟩
  obtain ⟨α, env, hp, re, rh, fi⟩ := h
  exact fi α H true .refl rh rfl
theorem dts_one {c : Expr} {f : Ft} (h : DT X R W c f) : DTs X R W [c] f := pts_one h
theorem lc_turns {σ : St} {wi : TI} {src : Src} {J : It} {tg : Fg} {tst : Ft} {el : Fe} {env : En} {vs ts : List Nat} {α1 : List Addr} {h1 : Hd} {H1 : Hp} {Q : VK} (re : RelEnv R α1 H1 env σ) (rh : RH R α1 h1 H1) (rj : RelI R α1 H1 src J) (hts : ∀ i ∈ ts, i ∈ vs)
    (f : FinE R W α1 H1 σ (lcL src tg tst el (wipeE env vs) h1.length most 0 (h1 ++ [.lst []])) Q) (D : Addr) (hD : H1 D = none) :
    ∃ W' : Nat → Nat → Hp → Prop, (∃ m, W' 0 m (upd H1 D (.lst []))) ∧ ∀ i m H, W' i m H →
      (J.stop i H ∧ Q (.ref D) H) ∨ (J.go i H ∧ ∃ Nx : Hp → Prop, (∀ H', Nx H' → ∃ m', m' < m ∧ W' (i + 1) m' H') ∧ ∀ x H', J.yld i H x H' → tG R ts tg x (wipe σ vs) H' fun σ2 H2 => wipe σ2 vs = wipe σ vs ∧ tT R W0 tst σ2 H2 fun b H3 =>
        if b = true then tE R W0 el σ2 H3 fun y H4 => ∃ acc, H4 D = some (.lst acc) ∧ acc.length < sizeLine ∧ Nx (upd H4 D (.lst (acc ++ [y]))) else Nx H3) := by
  have x0 : Ext α1 H1 (α1 ++ [D]) (upd H1 D (.lst [])) := Ext.new hD
  have rh0 : RH R (α1 ++ [D]) (h1 ++ [.lst []]) (upd H1 D (.lst [])) := rh.new hD ⟨[], upd_same, .nil⟩
  have hD0 : (α1 ++ [D])[h1.length]? = some D := rh.new_at
  refine ⟨fun i m H => ∃ α' h', Ext (α1 ++ [D]) (upd H1 D (.lst [])) α' H ∧ RH R α' h' H ∧ FinE R W α' H σ (lcL src tg tst el (wipeE env vs) h1.length m i h') Q, ⟨most, _, _, .refl, rh0, f.mono x0⟩, ?_⟩
  rintro i m H ⟨α', h', xx, rh', f'⟩
  cases m with
  | zero => exact (show False from f').elim
  | succ m =>
    have rj' := rj α' H h' i (x0.trans xx) rh'
    unfold lcL at f'
    cases es : src h' i with
    | bad => rw [es] at f'; exact (show False from f').elim
    | stop =>
      rw [es] at f' rj'
      exact .inl ⟨rj', f' α' H _ .refl rh' (.ref (xx.get hD0))⟩
    | item d =>
      rw [es] at f' rj'
      dsimp only at f'
      refine .inr ⟨rj'.1, fun H2 => ∃ α2 h2, Ext (α1 ++ [D]) (upd H1 D (.lst [])) α2 H2 ∧ RH R α2 h2 H2 ∧ FinE R W α2 H2 σ (lcL src tg tst el (wipeE env vs) h1.length m (i + 1) h2) Q, fun H2 hn => ⟨m, Nat.lt_succ_self m, hn⟩, fun x H2 hy => ?_⟩
      obtain ⟨x2, rh2, rd2⟩ := rj'.2 x H2 hy
      refine ⟨α', wipeE env vs, h', d, (RelEnv.wipe re vs).ext ((x0.trans xx).trans x2), rh2, rd2, ?_⟩
      cases eg : tg d (wipeE env vs) h' with
      | none => rw [eg] at f'; exact (show False from f').elim
      | some p =>
        obtain ⟨env3, h3⟩ := p
        rw [eg] at f'
        dsimp only at f'
        intro α3 H3 σ3 x3 rh3 re3 k3
        refine ⟨wipe_keep k3 hts, α3, env3, h3, re3, rh3, ?_⟩
        cases et : tst env3 h3 with
        | no => rw [et] at f'; exact (show False from f').elim
        | ex e h4 => rw [et] at f'; exact (show False from f').elim
        | ok b h4 =>
          rw [et] at f'
          intro α4 H4 b' x4 rh4 e4
          have e4 : b = b' := e4
          subst e4
          cases b with
          | false => exact ⟨α4, h4, ((xx.trans x2).trans x3).trans x4, rh4, f'.mono ((x2.trans x3).trans x4)⟩
          | true =>
            dsimp only at f'
            refine ⟨α4, env3, h4, re3.ext x4, rh4, ?_⟩
            cases ee : el env3 h4 with
            | no => rw [ee] at f'; exact (show False from f').elim
            | ex e h5 => rw [ee] at f'; exact (show False from f').elim
            | ok y h5 =>
              rw [ee] at f'
              dsimp only at f'
              intro α5 H5 v x5 rh5 rd5
              have xD : Ext (α1 ++ [D]) (upd H1 D (.lst [])) α5 H5 := (((xx.trans x2).trans x3).trans x4).trans x5
              obtain ⟨o, eo, ro⟩ := rh5.at (xD.get hD0)
              rw [eo] at f'
              cases o with
              | fro _ => exact (show False from f').elim
              | dic _ => exact (show False from f').elim
              | lst acc =>
                obtain ⟨ws, hw, rw'⟩ := ro
                dsimp only at f'
                split at f'
                · rename_i hl
                  refine ⟨ws, hw, by rw [← rw'.length, lineEq]; exact hl, ?_⟩
                  have xw : Ext α5 H5 α5 (upd H5 D (.lst (ws ++ [v]))) := Ext.write (xD.get hD0) hw trivial
                  exact ⟨α5, h5.set h1.length (.lst (acc ++ [y])), xD.trans xw, rh5.write (xD.get hD0) hw trivial ⟨ws ++ [v], upd_same, RelDs.ext xw _ _ (rw'.append (.cons rd5 .nil))⟩,
                    f'.mono ((((x2.trans x3).trans x4).trans x5).trans xw)⟩
                · exact (show False from f').elim
theorem de_lc {elt tg iter : Expr} {ifs : List Expr} {scope : Scope} {own : List (Str × Nat)} {ts : List Nat} {fi : Fi} {fg : Fg} {ft : Ft} {fe : Fe} (hc : X.calm = true) (hN : X.N.Nodup) (hi : DI X R W tg iter fi) (ok : BlkOk X.N X.env.scope scope own) (hts : ∀ i ∈ ts, i ∈ own.map (·.2))
    (hg : ∀ (s : Shared) (H : Hp) (C : Addr) (cl : List (Str × Addr)) (fp : List Addr), DG (X.blk s H scope (compEnvC scope cl C X.env) fp) R tg ts fg) (ht : ∀ (s : Shared) (H : Hp) (C : Addr) (cl : List (Str × Addr)) (fp : List Addr), DTs (X.blk s H scope (compEnvC scope cl C X.env) fp) R W0 ifs ft)
    (he : ∀ (s : Shared) (H : Hp) (C : Addr) (cl : List (Str × Addr)) (fp : List Addr), DE (X.blk s H scope (compEnvC scope cl C X.env) fp) R W0 elt fe) (hs : ∀ x, foldedSetIterable iter X.env x = pure x := by intro _; rfl) :
    DE X R W (.ListComp elt [⟨tg, iter, ifs, 0⟩] scope pos) (eLc fi fg ft fe (own.map (·.2))) := by
  refine ⟨fun pins s σ H Q I h => (pe_lc hc hN hi ok hg ht he hs).run pins s σ H Q I ?_⟩
  obtain ⟨α, env, hp, re, rh, f⟩ := h
  refine ⟨α, env, hp, re, rh, ?_⟩
  have f : FinE R W α H σ (match fi env hp with
    | .ok src h1 => lcL src fg ft fe (wipeE env (own.map (·.2))) h1.length most 0 (h1 ++ [.lst []])
    | .ex e h1 => .ex e h1
    | .no => .no) Q := f
  cases er : fi env hp with
  | no => rw [er] at f; exact f
  | ex e h1 => rw [er] at f; exact f
  | ok src h1 =>
    rw [er] at f
    intro α1 H1 J x1 rh1 rj
    exact fun D hD => lc_turns (wi := tI R W fi) (re.ext x1) rh1 rj hts (f.mono x1) D hD
theorem ds_setLc (i : Nat) {y : Str} {py : Pos} {elt tg iter : Expr} {ifs : List Expr} {scope : Scope} {own : List (Str × Nat)} {ts : List Nat} {fi : Fi} {fg : Fg} {ft : Ft} {fe : Fe} {spos : Pos} (hc : X.calm = true) (hN : X.N.Nodup) (hy : X.N[i]? = some y) (hyl : X.env.scope.names.lookup y = some .local)
    (hsw : swapsWith (.ListComp elt [⟨tg, iter, ifs, 0⟩] scope pos) (some (.Name y py)) spos.line X.env = pure true) (hi : DI X R W tg iter fi) (ok : BlkOk X.N X.env.scope scope own) (hts : ∀ i ∈ ts, i ∈ own.map (·.2))
    (hg : ∀ (s : Shared) (H : Hp) (C : Addr) (cl : List (Str × Addr)) (fp : List Addr), DG (X.blk s H scope (compEnvC scope cl C X.env) fp) R tg ts fg) (ht : ∀ (s : Shared) (H : Hp) (C : Addr) (cl : List (Str × Addr)) (fp : List Addr), DTs (X.blk s H scope (compEnvC scope cl C X.env) fp) R W0 ifs ft)
    (he : ∀ (s : Shared) (H : Hp) (C : Addr) (cl : List (Str × Addr)) (fp : List Addr), DE (X.blk s H scope (compEnvC scope cl C X.env) fp) R W0 elt fe) (hs : ∀ x, foldedSetIterable iter X.env x = pure x := by intro _; rfl) :
    DS X R W (.Assign [.Name y py] (.ListComp elt [⟨tg, iter, ifs, 0⟩] scope pos) spos) (sAsg (eLc fi fg ft fe (own.map (·.2))) (gSet i)) := by
  refine ⟨fun pins s σ H Dn I h => (ps_setLc hc hN hy hyl hsw hi ok hg ht he hs).run pins s σ H Dn I ?_⟩
  obtain ⟨α, env, hp, re, rh, f⟩ := h
  refine ⟨α, env, hp, re, rh, ?_⟩
  have f0 := finS_of re f
  have f : FinE R W α H σ (match fi env hp with
    | .ok src h1 => lcL src fg ft fe (wipeE env (own.map (·.2))) h1.length most 0 (h1 ++ [.lst []])
    | .ex e h1 => .ex e h1
    | .no => .no) _ := f0
  cases er : fi env hp with
  | no => rw [er] at f; exact f
  | ex e h1 => rw [er] at f; exact f
  | ok src h1 =>
    rw [er] at f
    intro α1 H1 J x1 rh1 rj
    refine fun D hD => lc_turns (wi := tI R W fi) (Q := fun x H1 => gName i x σ H1 Dn.nx) (re.ext x1) rh1 rj hts ((f.mono x1).imp fun v H2 hq => ?_) D hD
    obtain ⟨d, α2, h2, _, x2, rh2, r2, f2⟩ := hq
    have f2 : FinS R W α2 H2 Dn (match gSet i d env h2 with
      | some (env1, h1) => .nx env1 h1
      | none => .no) := f2
    unfold gSet at f2
    split at f2
    · rename_i he
      split at he
      · cases he
        exact f2 α2 H2 _ .refl rh2 ((re.ext x2).set r2)
      · cases he
    · exact (show False from f2).elim
end

/-! ### defs -/
def spD (R : Rx) (n : Nat) (F : List D → Hd → Res D) : Sp := fun vs H Q E => vs.length = n ∧ ∃ α ds h, RelDs R α H ds vs ∧ RH R α h H ∧ (match F ds h with
  | .ok d h' => ∀ α' H' v, Ext α H α' H' → RH R α' h' H' → RelD R α' H' d v → Q v H'
  | .ex e h' => ∀ α' H' cls dd, Ext α H α' H' → RH R α' h' H' → RelX R α' H' e cls dd → E cls (some dd) H'
  | .no => False)
@[simp] def runF (m : Nat) (fb : Fs) : List D → Hd → Res D := fun ds h => match fb (ds.map some ++ List.replicate (m - ds.length) none) h with
  | .nx _ h' => .ok .non h'
  | .rt d h' => .ok d h'
  | .ex e _ h' => .ex e h'
  | _ => .no
abbrev rx (K : PySem.W.Frag) (mg : Str → Option Value) (T : List (Addr × Str)) : Rx := ⟨K, mg, fun _ => none, fun _ => none, T, fun _ _ => True, fun _ h => h⟩
/-- room, and no guard stands -/
structure RoomG (k : Nat) (A : Around) : Prop where
  rm : Room k A
  gd : A.guards = some []
theorem RoomG.mono {j k : Nat} {A : Around} (r : RoomG k A) (h : j ≤ k) : RoomG j A := ⟨r.rm.mono h, r.gd⟩
theorem RoomG.deeper {k : Nat} {A : Around} (r : RoomG (k + 1) A) (env : Env) : RoomG k (A.deeper env) := ⟨r.rm.deeper env, r.gd⟩
/-- a def's promise where no guard stands -/
structure FnG (P : Program) (w : World) (K : PySem.W.Frag) (mg : Str → Option Value) (base : Heap) (CX : CXT) (k : Nat) (f : Addr) (fd : FuncData) (ps : List Str) (sp : Sp) : Prop where
  len : ∀ vs H Q E, sp vs H Q E → vs.length = ps.length
  run : ∀ (A : Around) (outer : List Env) (s : Shared) (H : Hp) (args : Args) (us : List Value) (vs : List V) (Q : VK) (E : XK), RoomG k A → Env0 P w K mg base A outer s H → BindsTo s fd args (ps.zip us) → Vals vs us → sp vs H Q E →
    codeAny (model P w) A (.call (.ref f) args) (CR CX outer P w H s Q E) s
theorem FnG.mono {P : Program} {w : World} {K : PySem.W.Frag} {mg : Str → Option Value} {base : Heap} {CX : CXT} {j k : Nat} {f : Addr} {fd : FuncData} {ps : List Str} {sp : Sp} (F : FnG P w K mg base CX j f fd ps sp) (h : j ≤ k) :
    FnG P w K mg base CX k f fd ps sp := ⟨F.len, fun A outer s H args us vs Q E hr => F.run A outer s H args us vs Q E (hr.mono h)⟩
theorem fnG_of {CX : CXT} {P : Program} {w : World} {K : PySem.W.Frag} {mg : Str → Option Value} {base : Heap} {k : Nat} {f : Addr} {name qual : Str} {params : Arguments} {body : List Stmt} {scope : Scope} {dV kV doc pm cdv ct oc : Value} {an od : Option Addr}
    {osl : Array (Option Value)} {N ps : List Str} {sp : Sp} (lk : K.lookup f = some ⟨oc, od, .func (PySem.W.fnOf name qual params body scope dV kV doc pm an cdv ct), osl⟩) (hcd : PySem.W.codeIn K cdv qual = true) (S : FnScope N ps scope)
    (len : ∀ vs H Q E, sp vs H Q E → vs.length = ps.length)
    (hbody : ∀ (A : Around) (outer : List Env) (s : Shared) (H : Hp) (vs : List V) (Q : VK) (E : XK), RoomG k (A.deeper (envOfC qual scope s.heap.objs.size f cdv)) → sp vs H Q E →
      ∃ t, PSs (cxOf CX P w K mg base N qual scope f cdv A outer s H E) body t ∧ t { nx := fun _ H' => Q .non H', rt := Q } (start N vs) H) :
    FnG P w K mg base CX (k + 1) f (PySem.W.fnOf name qual params body scope dV kV doc pm an cdv ct) ps sp := by
  refine ⟨len, fun A outer s H args us vs Q E hr e0 hb r hsp => ?_⟩
  have KX : K.In s.heap := e0.mod.kin.keeps fun b o e => (e0.bs b o e).1
  have lim : s.heap.NoLimit := e0.mod.nolimit.keeps fun b o e => (e0.bs b o e).1
  have hkind : ∀ y ∈ ps.zip us, scope.names.lookup y.1 = some .local ∨ (scope.names.lookup y.1 = some .cell ∧ ((cellsFrom (s.heap.objs.size + 1) scope.names []).lookup y.1).isSome = true) := fun ⟨n, v⟩ hy => by
    rcases S.par n (List.of_mem_zip hy).1 with q | q
    · exact .inl q
    · exact .inr ⟨q, PySem.W.cellsFrom_some _ _ _ (.inl q)⟩
  refine codeAny_call_function hr.rm.depth (KX _ _ lk) rfl S.co S.gen rfl (PySem.W.codeRec_of KX hcd) (hb _ _ _ _ ?_)
  refine wpAny_newFunctionEnv_cells S.kind hkind fun env he s1 x => ?_
  subst he
  refine ⟨lim.keeps x.toInCall.keep, codeAny_func ?_⟩
  obtain ⟨t, ht, hq⟩ := hbody A outer s H vs Q E (hr.deeper _) hsp
  refine wpAny_mono (ht.run [] s1 (start N vs) H _ (inv_start S hr.rm.hd e0 (len _ _ _ _ hsp) r x) hq) (fun fl s' hs => ?_) fun e s' hs => hs
  cases fl with
  | ret u =>
    obtain ⟨v, σ', H', J, rv, q⟩ := hs
    exact ⟨v, H', J.os, J.bare, J.base, J.hok, rv, q⟩
  | next =>
    obtain ⟨σ', H', J, q⟩ := hs
    exact ⟨.non, H', J.os, J.bare, J.base, J.hok, rfl, q⟩
  | brk => obtain ⟨_, _, _, q⟩ := hs; exact False.elim q
  | cont => obtain ⟨_, _, _, q⟩ := hs; exact False.elim q
structure FDx (P : Program) (w : World) (K : PySem.W.Frag) (mg : Str → Option Value) (Tt : List (Addr × Str)) (base : Heap) (d : He.DefD) (ps : List Str) (k : Nat) (F : List D → Hd → Res D) : Prop where
  ex : ∃ fd, FunD K d.name d.qual d.params d.body d.scope (d.dvs K) (d.kws K) (He.fAd K d.at_) fd ∧ FnG P w K mg base (L2.CX P w) k (He.fAd K d.at_) fd ps (spD (rx K mg Tt) ps.length F)
section
variable {Tt : List (Addr × Str)} {P : Program} {w : World} {K : PySem.W.Frag} {mg : Str → Option Value} {base : Heap} {d : He.DefD} {N ps : List Str} {k : Nat}
theorem RelEnv.start {R : Rx} {α : List Addr} {H : Hp} {ds : List D} {vs : List V} (r : RelDs R α H ds vs) : RelEnv R α H (ds.map some ++ List.replicate (N.length - ds.length) none) (L2.start N vs) := by
  have hl := r.length
  unfold L2.start
  refine ⟨by simp [hl], fun i d e => ?_⟩
  by_cases hi : i < ds.length
  · rw [List.getElem?_append_left (by simpa using hi), List.getElem?_map] at e
    cases e2 : ds[i]? with
    | none => rw [e2] at e; cases e
    | some d' =>
      rw [e2] at e
      cases e
      obtain ⟨v, h1, h2⟩ := r.get e2
      exact ⟨v, by rw [List.getElem?_append_left (by rw [List.length_map, ← hl]; exact hi), List.getElem?_map, h1]; rfl, .of h2⟩
  · rw [List.getElem?_append_right (by simpa using hi), List.getElem?_replicate] at e
    split at e <;> cases e
theorem fd_ok (F : ∃ fd, FunD K d.name d.qual d.params d.body d.scope (d.dvs K) (d.kws K) (He.fAd K d.at_) fd) (S : FnScope N ps d.scope) {fb : Fs}
    (hb : ∀ (cdv : Value) (A : Around) (outer : List PySem.Env) (s : Shared) (H : Hp) (E : XK), RoomG k (A.deeper (envOfC d.qual d.scope s.heap.objs.size (He.fAd K d.at_) cdv)) →
      DSs (cxOf (L2.CX P w) P w K mg base N d.qual d.scope (He.fAd K d.at_) cdv A outer s H E) (rx K mg Tt) (fun cls dd _ H => E cls dd H) d.body fb) : FDx P w K mg Tt base d ps (k + 1) (runF N.length fb) := by
  obtain ⟨fd, F⟩ := F
  obtain ⟨oc, od, dV, kV, doc, pm, an, cdv, ct, osl, e, lk, hcd, _, _⟩ := id F.ex
  refine ⟨fd, F, ?_⟩
  subst e
  refine fnG_of lk hcd S (fun vs H Q E h => h.1) fun A outer s H vs Q E hr h => ⟨_, hb cdv A outer s H E hr, ?_⟩
  obtain ⟨_, α, ds, hp, rd, rh, f⟩ := h
  refine ⟨α, _, hp, RelEnv.start rd, rh, ?_⟩
  unfold runF at f
  cases eb : fb (ds.map some ++ List.replicate (N.length - ds.length) none) hp with
  | nx env h' => rw [eb] at f; exact fun α1 H1 σ1 x1 rh1 _ => f α1 H1 .non x1 rh1 .non
  | rt d h' => rw [eb] at f; exact f
  | ex e env h' => rw [eb] at f; exact fun α1 H1 σ1 cls dd x1 rh1 _ rx => f α1 H1 cls dd x1 rh1 rx
  | bk env h' => rw [eb] at f; exact (show False from f).elim
  | ct env h' => rw [eb] at f; exact (show False from f).elim
  | no => rw [eb] at f; exact f
end
/-- a call of a def -/
@[simp] def eCall (F : List D → Hd → Res D) (fa : Fa) : Fe := fun env h => (fa env h).bind F
@[simp] def eCallK (F : List D → Hd → Res D) (g : List D → List D → List D) (fa fk : Fa) : Fe := fun env h => (fa env h).bind fun ds h1 => (fk env h1).bind fun ws h2 => F (g ds ws) h2
/-- how a call's values come to the parameters -/
structure Bnd (K : PySem.W.Frag) (fd : FuncData) (ps : List Str) (n : Nat) (ks : List Str) (gD : List D → List D → List D) : Prop where
  ex : ∃ g gV, KBn K fd ps n ks g gV ∧ (∀ vs zs, vs.length = n → zs.length = ks.length → (gV vs zs).length = ps.length) ∧ ∀ (R : Rx) α H ds vs ws zs, RelDs R α H ds vs → RelDs R α H ws zs → RelDs R α H (gD ds ws) (gV vs zs)
abbrev DK (X : Cx) (R : Rx) (W : WX) (kws : List Keyword) (f : Fa) : Prop := PK X kws (tA R W f)
section
variable {Tt : List (Addr × Str)} {X : Cx} {W : WX} {pos : Pos} {d : He.DefD} {ps ks : List Str} {k n : Nat} {F : List D → Hd → Res D} {x : Str} {p : Pos} {e : Expr} {es : List Expr} {kws : List Keyword} {fa fk : Fa} {gD : List D → List D → List D}
theorem dk_nil : DK X (rx X.K X.mg Tt) W [] aNil := by
  refine ⟨fun pos pins s σ H Q I h => pk_nil.run pos pins s σ H Q I ?_⟩
  obtain ⟨α, env, hp, re, rh, fi⟩ := h
  exact fi α H [] .refl rh .nil
theorem dk_cons {nm : Option Str} {kpos : Pos} {fe : Fe} (ha : DE X (rx X.K X.mg Tt) W e fe) (hr : DK X (rx X.K X.mg Tt) W kws fa) : DK X (rx X.K X.mg Tt) W (⟨nm, e, kpos⟩ :: kws) (aCons fe fa) := by
  refine ⟨fun pos pins s σ H Q I h => (pk_cons ha hr).run pos pins s σ H Q I ?_⟩
  obtain ⟨α, env, hp, re, rh, fi⟩ := h
  refine ⟨α, env, hp, re, rh, (Fin.split fi).imp fun v H1 hq => ?_⟩
  obtain ⟨d, α1, h1, _, x1, rh1, r1, f1⟩ := hq
  refine ⟨α1, env, h1, re.ext x1, rh1, (Fin.split f1).imp fun vs H2 hq => ?_⟩
  obtain ⟨ds, α2, h2, _, x2, rh2, r2, f2⟩ := hq
  exact f2 α2 H2 _ .refl rh2 (.cons (RelD.ext x2 _ _ r1) r2)
theorem run_fd {pins : List (Addr × Obj)} {σ : St} {H : Hp} {s : Shared} {Q : VK} {us ws : List Value} {vs zs : List V} {ds dz : List D} {α : List Addr} {h : Hd} {fd : FuncData} {f : Addr} (Fk : FnG X.prog X.w X.K X.mg X.base (L2.CX X.prog X.w) k f fd ps (spD (rx X.K X.mg Tt) ps.length F)) (hr : RoomG k X.A)
    (hb : Bnd X.K fd ps n ks gD) (tk : Takes X W) (I : Inv X pins σ H s) (r : Vals vs us) (rz : Vals zs ws) (l1 : vs.length = n) (l2 : zs.length = ks.length) (rd : RelDs (rx X.K X.mg Tt) α H ds vs) (rdz : RelDs (rx X.K X.mg Tt) α H dz zs) (rh : RH (rx X.K X.mg Tt) α h H)
    (fi : FinE (rx X.K X.mg Tt) W α H σ (F (gD ds dz) h) Q) : wpAny (model X.prog X.w) X.A (call (.ref f) us (ks.zip ws)) (EP X pins σ Q) X.xe s := by
  obtain ⟨g, gV, kb, hl, hrel⟩ := hb.ex
  have r2 := kb.rel r rz
  have sp : spD (rx X.K X.mg Tt) ps.length F (gV vs zs) H Q (fun cls dd H' => W cls dd σ H') := by
    refine ⟨hl vs zs l1 l2, α, gD ds dz, h, hrel _ _ _ _ _ _ _ rd rdz, rh, ?_⟩
    cases eF : F (gD ds dz) h with
    | ok d h' => rw [eF] at fi; exact fi
    | ex e h' => rw [eF] at fi; exact fi
    | no => rw [eF] at fi; exact fi
  refine wpAny_call (codeAny_mono (Fk.run X.A X.stack s H ⟨us, ks.zip ws⟩ (g us ws) (gV vs zs) Q (fun cls dd H' => W cls dd σ H') hr I.env0 (kb.to s us ws I.kIn (r.length.symm.trans l1) (rz.length.symm.trans l2)) r2 sp) fun r s' hq => ?_)
  cases r with
  | error e => exact tk e s' (XE.of_call I (fun _ _ _ h => h) hq)
  | ok fl =>
    cases fl with
    | ret u => exact I.after hq
    | next => exact False.elim hq
    | brk => exact False.elim hq
    | cont => exact False.elim hq
theorem de_call (hF : FDx X.prog X.w X.K X.mg Tt X.base d ps k F) (hr : RoomG k X.A) (hg : Gl X x) (hm : X.mg x = some (.ref (He.fAd X.K d.at_))) (tk : Takes X W)
    (hb : ∀ fd, FunD X.K d.name d.qual d.params d.body d.scope (d.dvs X.K) (d.kws X.K) (He.fAd X.K d.at_) fd → Bnd X.K fd ps (e :: es).length [] (fun ds _ => gD ds [])) (ha : DA X (rx X.K X.mg Tt) W (e :: es) fa) (hlen : ∀ env h ds h1, fa env h = .ok ds h1 → ds.length = (e :: es).length)
    (hdb : (x == ("__debug__" : Str)) = false := by decide) (he : starEach (e :: es) X.env = (false, eval e X.env) :: starEach es X.env := by rfl) (hpl : (backTo pos (starEach es X.env)).any (·.1) = false := by rfl) :
    DE X (rx X.K X.mg Tt) W (.Call (.Name x p) (e :: es) [] pos) (eCall (fun ds => F (gD ds [])) fa) := by
  refine ⟨fun pins s σ H Q I h => ?_⟩
  obtain ⟨fd, FD, Fk⟩ := hF.ex
  obtain ⟨α, env, hp, re, rh, fi⟩ := h
  refine wpAny_Call_Name_kw (ld_glob I hg hm ?_ hdb)
  refine PySem.W.callWith_K (h₀ := X.base) I.ok.mod.kin FD.kp (thn (ha.run pos pins s σ H _ I ⟨α, env, hp, re, rh, Fin.split (g := fun ds => F (gD ds [])) fi⟩) fun us s1 ⟨vs, H1, I1, r, q⟩ => ⟨I1.kIn, ?_⟩) he hpl
  obtain ⟨ds, α1, h1, e1, x1, rh1, rd1, f1⟩ := q
  exact run_fd (ws := []) (zs := []) (dz := []) Fk hr (hb fd FD) tk I1 r .nil (rd1.length.symm.trans (hlen _ _ _ _ e1)) rfl rd1 .nil rh1 f1
theorem de_call0 (hF : FDx X.prog X.w X.K X.mg Tt X.base d ps k F) (hr : RoomG k X.A) (hg : Gl X x) (hm : X.mg x = some (.ref (He.fAd X.K d.at_))) (tk : Takes X W)
    (hb : ∀ fd, FunD X.K d.name d.qual d.params d.body d.scope (d.dvs X.K) (d.kws X.K) (He.fAd X.K d.at_) fd → Bnd X.K fd ps 0 [] (fun ds _ => gD ds []))
    (hdb : (x == ("__debug__" : Str)) = false := by decide) :
    DE X (rx X.K X.mg Tt) W (.Call (.Name x p) [] [] pos) (eCall (fun ds => F (gD ds [])) aNil) := by
  refine ⟨fun pins s σ H Q I h => ?_⟩
  obtain ⟨fd, FD, Fk⟩ := hF.ex
  obtain ⟨α, env, hp, re, rh, fi⟩ := h
  refine wpAny_Call_Name_kw (ld_glob I hg hm ?_ hdb)
  exact PySem.W.callWith_K0 I.kIn FD.kp (run_fd (us := []) (ws := []) (vs := []) (zs := []) (ds := []) (dz := []) Fk hr (hb fd FD) tk I .nil .nil rfl rfl .nil .nil rh fi)
theorem de_callK (hF : FDx X.prog X.w X.K X.mg Tt X.base d ps k F) (hr : RoomG k X.A) (hg : Gl X x) (hm : X.mg x = some (.ref (He.fAd X.K d.at_))) (tk : Takes X W)
    (hb : ∀ fd, FunD X.K d.name d.qual d.params d.body d.scope (d.dvs X.K) (d.kws X.K) (He.fAd X.K d.at_) fd → Bnd X.K fd ps (e :: es).length ks gD) (ha : DA X (rx X.K X.mg Tt) W (e :: es) fa) (hlen : ∀ env h ds h1, fa env h = .ok ds h1 → ds.length = (e :: es).length)
    (hkw : DK X (rx X.K X.mg Tt) W kws fk) (hlenk : ∀ env h ds h1, fk env h = .ok ds h1 → ds.length = ks.length) (hall : (backToKw pos (keywordEach kws X.env)).all (·.1.isSome) = true := by rfl) (hks : (backToKw pos (keywordEach kws X.env)).filterMap (·.1) = ks := by rfl)
    (hdb : (x == ("__debug__" : Str)) = false := by decide) (he : starEach (e :: es) X.env = (false, eval e X.env) :: starEach es X.env := by rfl)
    (hpl : ((backTo pos (starEach (e :: es) X.env)).any (·.1) || (backToKw pos (keywordEach kws X.env)).any (·.1.isNone)) = false := by rfl) :
    DE X (rx X.K X.mg Tt) W (.Call (.Name x p) (e :: es) kws pos) (eCallK F gD fa fk) := by
  refine ⟨fun pins s σ H Q I h => ?_⟩
  obtain ⟨fd, FD, Fk⟩ := hF.ex
  obtain ⟨α, env, hp, re, rh, fi⟩ := h
  refine wpAny_Call_Name_kw (ld_glob I hg hm ?_ hdb)
  refine PySem.W.callWith_KW (h₀ := X.base) I.ok.mod.kin FD.kp hall (thn (ha.run pos pins s σ H _ I ⟨α, env, hp, re, rh, Fin.split (g := fun ds h1 => (fk env h1).bind fun ws h2 => F (gD ds ws) h2) fi⟩) fun us s1 ⟨vs, H1, I1, r, q⟩ => ?_) hpl he
  obtain ⟨ds, α1, h1, e1, x1, rh1, rd1, f1⟩ := q
  refine thn (hkw.run pos pins s1 σ H1 _ I1 ⟨α1, env, h1, re.ext x1, rh1, Fin.split f1⟩) fun ws s2 ⟨zs, H2, I2, rz, q2⟩ => ⟨I2.kIn, ?_⟩
  obtain ⟨dz, α2, h2, e2, x2, rh2, rd2, f2⟩ := q2
  rw [hks]
  exact run_fd Fk hr (hb fd FD) tk I2 r rz (rd1.length.symm.trans (hlen _ _ _ _ e1)) (rd2.length.symm.trans (hlenk _ _ _ _ e2)) (RelDs.ext x2 _ _ rd1) rd2 rh2 f2
theorem de_callK0 (hF : FDx X.prog X.w X.K X.mg Tt X.base d ps k F) (hr : RoomG k X.A) (hg : Gl X x) (hm : X.mg x = some (.ref (He.fAd X.K d.at_))) (tk : Takes X W)
    (hb : ∀ fd, FunD X.K d.name d.qual d.params d.body d.scope (d.dvs X.K) (d.kws X.K) (He.fAd X.K d.at_) fd → Bnd X.K fd ps 0 ks gD)
    (hkw : DK X (rx X.K X.mg Tt) W kws fk) (hlenk : ∀ env h ds h1, fk env h = .ok ds h1 → ds.length = ks.length) (hall : (backToKw pos (keywordEach kws X.env)).all (·.1.isSome) = true := by rfl) (hks : (backToKw pos (keywordEach kws X.env)).filterMap (·.1) = ks := by rfl)
    (hdb : (x == ("__debug__" : Str)) = false := by decide)
    (hpl : ((backTo pos (starEach [] X.env)).any (·.1) || (backToKw pos (keywordEach kws X.env)).any (·.1.isNone)) = false := by rfl) :
    DE X (rx X.K X.mg Tt) W (.Call (.Name x p) [] kws pos) (eCallK F gD aNil fk) := by
  refine ⟨fun pins s σ H Q I h => ?_⟩
  obtain ⟨fd, FD, Fk⟩ := hF.ex
  obtain ⟨α, env, hp, re, rh, fi⟩ := h
  refine wpAny_Call_Name_kw (ld_glob I hg hm ?_ hdb)
  refine PySem.W.callWith_KW0 (h₀ := X.base) I.ok.mod.kin FD.kp hall (thn (hkw.run pos pins s σ H _ I ⟨α, env, hp, re, rh, Fin.split (r := fk env hp) fi⟩) fun ws s2 ⟨zs, H2, I2, rz, q2⟩ => ⟨I2.kIn, ?_⟩) hpl
  obtain ⟨dz, α2, h2, e2, x2, rh2, rd2, f2⟩ := q2
  rw [hks]
  exact run_fd (us := []) (vs := []) (ds := []) Fk hr (hb fd FD) tk I2 .nil rz rfl (rd2.length.symm.trans (hlenk _ _ _ _ e2)) .nil rd2 rh2 f2
end
end Mi

set_option Elab.async false
set_option linter.all false
set_option maxRecDepth 100000
set_option maxHeartbeats 1000000
/-! ### own exception classes whose __init__ calls a base's and keeps one field -/
namespace MiX
open PySem PySem.W PySem.Calls PyProof.Rows PySem.HandSPX
def iA (f : Str) (dfl : List Expr) (p1 p2 : Pos) : Arguments := { posonlyargs := [], args := [{ arg := "self", annotation := none, pos := p1 }, { arg := f, annotation := none, pos := p2 }], vararg := none, kwonlyargs := [], kw_defaults := [], kwarg := none, defaults := dfl }
def iB (f b msg : Str) (j : Nat) (q1 q2 q3 q4 q5 q6 r1 r2 r3 r4 : Pos) : List Stmt :=
  [.Expr (.Call (.Attribute (.Name b q1) "__init__" q2) [.Name "self" q3, .Constant (.str msg) j q4] [] q5) q6, .Assign [.Attribute (.Name "self" r1) f r2] (.Name f r3) r4]
def iS (f b : Str) : Scope := { kind := .function, names := [(PySem.Str.ofString "self", .local), (f, .local), (b, .globalImplicit)], isGenerator := false, isCoroutine := false, more := [] }
/-- a built-in base -/
structure XBase (B newId initId : String) (bmB : List Value) : Prop where
  F : ExcBaseFacts B newId initId bmB
  hh : handedIn (.builtin initId) = true
  S : StoreFacts B bmB "object.__setattr__" "object"
/-- the base as the text names it: an own class without __init__, or the built-in one -/
def BaseOk (K : Frag) (mg : Str → Option Value) (b : Str) (initId : String) : Prop :=
  (∃ CB, mg b = some (.ref CB) ∧ specialIn K (.ref CB) "__getattribute__" = some (some (.builtin "type.__getattribute__")) ∧ readsIn K CB (.type "type") = true ∧ findCls K (.ref CB) (.type "type") "__init__" = some (.val (.builtin initId))) ∨
  (∃ T, mg b = none ∧ bootBuiltins b = some (.type T) ∧ b ≠ "__name__" ∧ typeOf (.type T) = pure (.type "type") ∧ Manifest.isStub T = false ∧ findCls K (.type T) (.type "type") "__init__" = some (.val (.builtin initId)))
structure XcTxt (K : Frag) (mg : Str → Option Value) (c f b : Str) (C fI : Addr) (newId initId : String) (bmB : List Value) : Prop where
  gC : mg c = some (.ref C)
  ei : excInitIn K C bmB newId = true
  hd : hasDictIn K C = true
  sa : findIn K (.ref C) "__setattr__" = some (some (.builtin "object.__setattr__"))
  ga : findIn K (.ref C) "__getattribute__" = some (some (.builtin "BaseException.__getattribute__"))
  gg : findIn K (.ref C) "__getattr__" = some none
  noN : findIn K (.ref C) f = some none
  iC : findIn K (.ref C) "__init__" = some (some (.ref fI))
  tC : typeIn K (.ref fI) = some (.type "function")
  kC : keepIn K (.ref C) = true
  exC : subIn K (.ref C) (.type "BaseException") = some true
  tyC : typeIn K (.ref C) = some (.type "type")
  fd_ : (f == ("__debug__" : Str)) = false
  fs_ : f ≠ "self"
  bd_ : (b == ("__debug__" : Str)) = false
  bs_ : b ≠ "self"
  bf_ : b ≠ f
  base : BaseOk K mg b initId
  fn : ∃ (qual msg : Str) (dfl : List Expr) (j : Nat) (p1 p2 q1 q2 q3 q4 q5 q6 r1 r2 r3 r4 : Pos) (dvs : List L2.V) (fd : FuncData), L2.FunD K "__init__" qual (iA f dfl p1 p2) (iB f b msg j q1 q2 q3 q4 q5 q6 r1 r2 r3 r4) (iS f b) dvs [] fI fd ∧
    (∀ env : Env, ∃ pl, eval (.Call (.Attribute (.Name b q1) "__init__" q2) [.Name "self" q3, .Constant (.str msg) j q4] [] q5) env = (do
      let ov ← eval (.Name b q1) env
      standAt q2.atName
      let (f, first) ← holding [ov] (getMethod ov "__init__" pl)
      callWith q5 f first (backTo q5 (starEach [.Name "self" q3, .Constant (.str msg) j q4] env)) (backToKw q5 (keywordEach [] env)))) ∧
    ∀ us : List Value, us.length = 2 → ∀ s : Shared, K.In s.heap → BindsTo s fd ⟨us, []⟩ ((["self", f] : List Str).zip us)
theorem exc_cls {K : Frag} {C : Addr} {bmB : List Value} {newId : String} (q : excInitIn K C bmB newId = true) : ∃ nm N qn bs bm hdct sn sub ab col dd k0 k1 k2 k3 k5,
    K.lookup C = some (excClassObj nm qn C N bs bm hdct sn sub ab col dd k0 k1 k2 k3 k5 newId) ∧ excTail bmB bm = true := by
  unfold excInitIn at q
  split at q
  · rename_i dd cd sl ho
    split at q
    · rename_i C' bm k0 k1 k2 k3 n k5 hm hs
      simp only [Bool.and_eq_true, beq_iff_eq, Bool.not_eq_true'] at q
      obtain ⟨⟨⟨rfl, rfl⟩, hdel⟩, ht⟩ := q
      obtain ⟨nm, bs, mro, ns, qn, hd, sn, sub, ab, col, del⟩ := cd
      dsimp only at hm hdel
      subst hm hdel
      have hsl : sl = #[k0, k1, k2, k3, some (.builtin n), k5] := by
        obtain ⟨l⟩ := sl
        simp only at hs
        rw [hs]
      subst hsl
      exact ⟨nm, ns, qn, bs, bm, hd, sn, sub, ab, col, dd, k0, k1, k2, k3, k5, ho, ht⟩
    · cases q
  · cases q
section
variable {prog : Program} {w : World} {A : Around} {E : Value → Shared → Prop} {R : Result → Shared → Prop} {hp : Heap} {g : Array GenState} {d : Drawn} {t : Nat} {os : OsState}
/-- self.f = v on such an exception without a dict as yet -/
theorem osa_new {K : W.Frag} {B : String} {bmB : List Value} {name : Str} {tk : Tok} {v : Value} {x C : Addr} {fv : Array Value} {cd : ClassData} (SB : StoreFacts B bmB "object.__setattr__" "object")
    (X : K.In hp) (hx : hp.get? x = some { cls := .ref C, data := .fields fv }) (hcd : W.clsIn K C = some cd) (hm : ∃ bm, cd.mro = .ref C :: bm ∧ excTail bmB bm = true) (hh : cd.hasDict = true) (ha : W.findIn K (.ref C) name = some none)
    (hq : ∀ h' tk' dx, (∀ b o, b ≠ x → hp.get? b = some o → h'.get? b = some o) → hp.objs.size ≤ dx → dx ≠ x → h'.get? x = some { cls := .ref C, dict := some dx, data := .fields fv } →
      h'.Ns1 dx (fun y => if y = name then some v else none) → R (.ok (.ret .none)) ⟨h', g, d, tk', os⟩) :
    codeAny (model prog w) A (.call (.builtin "object.__setattr__") ⟨[.ref x, .str name tk, v], []⟩) R ⟨hp, g, d, t, os⟩ := by
  obtain ⟨bm, hmro, htl⟩ := hm
  have I : W.InstAt hp x { cls := .ref C, data := .fields fv } C none := ⟨hx, rfl, rfl, trivial⟩
  have SF := F.store_object
  have ne : cd.mro.isEmpty = false := by rw [hmro]; rfl
  have hob : cd.mro.contains (.type "object") = true := by rw [hmro, List.contains_cons, excTail_contains "object" _ htl, SB.hasOwner, Bool.or_true]
  have hxs : x ≠ hp.objs.size := Nat.ne_of_lt (Heap.lt_size hx)
  have sub : W.Looks (model prog w) hp (isInstance (.ref x) (.type "object")) true := I.type.andThen (W.looks_mroIn X (by unfold W.mroIn; rw [hcd, Option.bind_some, if_neg (by rw [ne]; decide), hob]))
  refine codeAny_call_builtin SF.slot.plain SF.entry (@W.check_slot (model prog w) _ _ ⟨hp, g, d, t, os⟩ "object.__setattr__" "object" "__setattr__" (.ref x) [.str name tk, v] [] _ SF.kind SF.split sub (SF.args (.ref x) (.str name tk) v) ?_)
  have hmr : W.Looks (model prog w) hp (mroOf (.ref C)) cd.mro := (W.looks_clsIn X hcd).andThen .now
  have L3 : W.Looks (model prog w) hp (Builtin.ObjectAttr.storeTaker? none) none := .now
  have hcls : W.Looks (model prog w) hp (classData C) cd := W.looks_clsIn X hcd
  have hpass : refuseLoop (.ref x) "__setattr__" cd.mro = pure () := by rw [hmro, refuseLoop_ref]; exact excTail_pass _ (SB.passes _) _ htl
  rw [W.osa_eq, refuse_eq]
  refine wpAny_bind (wpAny_bind (I.type.at (wpAny_bind (hmr.at ?_))))
  rw [hpass]
  refine wpAny_pure (wpAny_bind (I.type.at (wpAny_bind ((W.looks_findIn X ha).at (wpAny_bind (L3.at ?_))))))
  show wpAny _ _ (Builtin.ObjectAttr.storeInOwnDict (.ref x) (.ref C) (.str name tk) name v false) _ _ _
  obtain ⟨nm, bs, mro, ns, qn, hd, sn, sb, ab, col, del⟩ := cd
  dsimp only at hh
  subst hh
  unfold Builtin.ObjectAttr.storeInOwnDict Builtin.ObjectAttr.ownDictForStores
  repeat (first | with_reducible refine store_in_new ?_ ?_ | with_reducible refine wpAny_loadPart_at hx ?_ | with_reducible refine hcls.at ?_ | wp_step)
  · exact ⟨_, #[], _, (Heap.get?_update_ne _ _ _ _ hxs.symm).trans (Heap.get?_push_at rfl rfl), rfl, fun e he => absurd he (by simp), fun _ => rfl⟩
  · intro h' tk' hn' hs
    have hx₁ : (hp.push { cls := .type "dict", data := .dict #[] }).get? x = some { cls := .ref C, data := .fields fv } := Heap.get?_push_of_some _ hx
    refine hq h' tk' hp.objs.size (fun b o hb ho => ?_) (Nat.le_refl _) hxs.symm ?_ hn'
    · exact (hs.2 b (Nat.ne_of_lt (Heap.lt_size ho))).trans ((Heap.get?_update_ne _ _ _ _ hb).trans (Heap.get?_push_of_some _ ho))
    · exact (hs.2 x hxs).trans (Heap.get?_update_self _ hx₁ rfl)

/-- what __init__ leaves of a fresh exception at x -/
structure XInit (h h' : Heap) (x C dx : Addr) (f : Str) (v : Value) : Prop where
  keep : ∀ b o, b ≠ x → h.get? b = some o → h'.get? b = some o
  obj : ∃ t1 : Addr, h'.get? x = some { cls := .ref C, dict := some dx, data := .fields #[.ref t1, .none, .none, .none, .bool false, .none] }
  dbig : h.objs.size ≤ dx
  dne : dx ≠ x
  ns : h'.Ns1 dx (fun y => if y = f then some v else none)
structure XMade (h h' : Heap) (e C d : Addr) (f : Str) (v : Value) : Prop where
  keep : ∀ b o, h.get? b = some o → h'.get? b = some o
  new : h.objs.size ≤ e
  obj : ∃ oe vs, h'.get? e = some oe ∧ oe.cls = .ref C ∧ oe.dict = some d ∧ oe.data = .fields vs ∧ vs[1]? = some .none
  dbig : h.objs.size ≤ d
  dne : d ≠ e
  ns : h'.Ns1 d (fun y => if y = f then some v else none)
theorem kept_but {K : Frag} {h h' : Heap} {x : Addr} (X : K.In h) (hx : K.lookup x = none) (k : ∀ b o, b ≠ x → h.get? b = some o → h'.get? b = some o) : K.In h' := fun a o e =>
  k a o (fun z => by rw [z, hx] at e; cases e) (X a o e)
theorem ldL {M : Model} {s : Shared} {qual : Str} {scope : Scope} {L a : Addr} {cd : Value} {m : Str → Option Value} {x : Str} {pos : Pos} {v : Value} {Q : Value → Shared → Prop} {A : Around} {E : Value → Shared → Prop} (hn : s.heap.Ns L m) (hv : m x = some v) (h : Q v s)
    (hk : scope.kind = .function) (hl : scope.names.lookup x = some .local) (hd : (x == ("__debug__" : Str)) = false) :
    wpAny M A (eval (.Name x pos) (envOfC qual scope L a cd)) Q E s := wpAny_Name (wpAny_loadName_local hk hl hn hv h) hd
section
variable {prog : Program} {w : World} {A : Around} {E : Value → Shared → Prop} {R : Result → Shared → Prop} {s : Shared} {K : Frag} {mg : Str → Option Value} {C fI : Addr} {c f b : Str} {B newId initId : String} {bmB : List Value}
theorem look_self {f b : Str} : (iS f b).names.lookup ("self" : Str) = some .local := by
  show List.lookup ("self" : Str) ((("self" : Str), NameKind.local) :: _) = _
  rw [List.lookup_cons, beq_self_eq_true]
theorem look_f {f b : Str} (h : f ≠ "self") : (iS f b).names.lookup f = some .local := by
  show List.lookup f ((("self" : Str), NameKind.local) :: (f, .local) :: _) = _
  have e : (f == ("self" : Str)) = false := by simpa using h
  rw [List.lookup_cons, e, List.lookup_cons, beq_self_eq_true]
theorem look_b {f b : Str} (h : b ≠ "self") (h2 : b ≠ f) : (iS f b).names.lookup b = some .globalImplicit := by
  show List.lookup b ((("self" : Str), NameKind.local) :: (f, .local) :: [(b, .globalImplicit)]) = _
  have e : (b == ("self" : Str)) = false := by simpa using h
  have e2 : (b == f) = false := by simpa using h2
  rw [List.lookup_cons, e, List.lookup_cons, e2, List.lookup_cons, beq_self_eq_true]
theorem x_init (XB : XBase B newId initId bmB) (T : XcTxt K mg c f b C fI newId initId bmB) {x t0 : Addr} {v : Value} (X : K.In s.heap) (hlim : s.heap.NoLimit) (G : s.heap.Ns mainGlobals mg) (BL : ∃ mb, s.heap.Ns builtinsNs mb ∧ ∀ x : Str, x ≠ "__name__" → mb x = bootBuiltins x)
    (hx : s.heap.get? x = some (excO C t0)) (hnx : K.lookup x = none) (hroom : A.depth < recursionLimit) (hgx : x ≠ mainGlobals)
    (hq : ∀ h' tk dx, XInit s.heap h' x C dx f v → R (.ok (.ret .none)) { s with heap := h', toks := tk }) :
    codeAny (model prog w) A (.call (.ref fI) ⟨[.ref x, v], []⟩) R s := by
  obtain ⟨qual, msg, dfl, j, p1, p2, q1, q2, q3, q4, q5, q6, r1, r2, r3, r4, dvs, fd, FD, hcall, hbind⟩ := T.fn
  obtain ⟨oc, od, dV, kV, doc, pm, an, cdv, ct, osl, rfl, ho, hcd, _, _⟩ := FD.ex
  obtain ⟨nm, N, q, bs, bm, hdct, sn, sub, ab, col, dd, k0, k1, k2, k3, k5, hC, hbm⟩ := exc_cls T.ei
  have hcl : clsIn K C = some { name := nm, bases := bs, mro := .ref C :: bm, ns := N, qualname := q, hasDict := hdct, slotNames := sn, subclasses := sub, abstract := ab, collection := col, hasDel := false } := by unfold clsIn; rw [hC] <;> rfl
  have hhd : hdct = true := by
    have := T.hd
    unfold hasDictIn at this
    rw [hcl] at this
    exact this
  subst hhd
  have e1 : (f == ("self" : Str)) = false := by simpa using T.fs_
  refine Att.call_fn (binds := [("self", .ref x), (f, v)]) X hlim ho hcd hroom (hbind [.ref x, v] rfl s X) ?_ (fun s₁ IC => ?_) rfl rfl rfl
  · show (((iS f b).names.lookup ("self" : Str) == some .local || _) && (((iS f b).names.lookup f == some .local || _) && true)) = true
    rw [look_self, look_f T.fs_]
    rfl
  obtain ⟨h₁, tk₁, rfl⟩ := IC.toInCall.same
  have k : ∀ b o, s.heap.get? b = some o → h₁.get? b = some o := IC.toInCall.keep
  have hn := IC.toInCall.ns
  have hxL : s.heap.objs.size ≠ x := Nat.ne_of_gt (Heap.lt_size hx)
  have X₁ : K.In h₁ := X.keeps k
  have hx₁ := k _ _ hx
  have G₁ : h₁.Ns mainGlobals mg := G.keeps k
  obtain ⟨mb, B1, B2⟩ := BL
  have B₁ : h₁.Ns builtinsNs mb := B1.keeps k
  have mS : (bindL (envOfC qual (iS f b) s.heap.objs.size fI cdv).kindOf [("self", .ref x), (f, v)] fun _ => none) "self" = some (.ref x) := by
    have := L2.bindL_get (kindOf := (envOfC qual (iS f b) s.heap.objs.size fI cdv).kindOf) (P := [("self" : Str), f]) (vs := [.ref x, v]) (i := 0) (x := ("self" : Str)) (v := .ref x) (m := fun _ => none) (by simp [Ne.symm T.fs_]) rfl rfl look_self
    exact this
  have mF : (bindL (envOfC qual (iS f b) s.heap.objs.size fI cdv).kindOf [("self", .ref x), (f, v)] fun _ => none) f = some v := by
    have := L2.bindL_get (kindOf := (envOfC qual (iS f b) s.heap.objs.size fI cdv).kindOf) (P := [("self" : Str), f]) (vs := [.ref x, v]) (i := 1) (x := f) (v := v) (m := fun _ => none) (by simp [Ne.symm T.fs_]) rfl rfl (look_f T.fs_)
    exact this
  -- B.__init__(self, msg)
  show wpAny _ _ (execs _ _) _ _ _
  refine wpAny_execs_cons (wpAny_Expr_any ?_)
  obtain ⟨pl, hcl2⟩ := hcall (envOfC qual (iS f b) s.heap.objs.size fI cdv)
  refine PySem.W.methodCall_KW (pl := pl) ?_ hcl2
  have ldB : ∀ {Q : Value → Shared → Prop} {E' : Value → Shared → Prop}, (∀ ov, (∀ (s2 : Shared) (Q2 : Value × List Value → Shared → Prop) (E2 : Value → Shared → Prop), s2.heap = h₁ → Q2 (.builtin initId, []) { s2 with toks := s2.toks + 1 } → wpAny (model prog w) (A.deeper (envOfC qual (iS f b) s.heap.objs.size fI cdv)) (getMethod ov "__init__" pl) Q2 E2 s2) → Q ov { s with heap := h₁, toks := tk₁ }) →
      wpAny (model prog w) (A.deeper (envOfC qual (iS f b) s.heap.objs.size fI cdv)) (eval (.Name b q1) (envOfC qual (iS f b) s.heap.objs.size fI cdv)) Q E' { s with heap := h₁, toks := tk₁ } := fun {Q E'} hQ => by
    rcases T.base with ⟨CB, m1, m2, m3, m4⟩ | ⟨T', m1, m2, m3, m4, m5, m6⟩
    · refine Calls.Name_function_global rfl (look_b T.bs_ T.bf_) (Calls.loadGlobal_global G₁ m1 (hQ _ fun s2 Q2 E2 eh hq2 => ?_)) T.bd_
      have X2 : K.In s2.heap := by rw [eh]; exact X₁
      exact method_cls X2 m2 (cls_value X2 m3 m4 XB.hh hq2)
    · refine Calls.Name_function_global rfl (look_b T.bs_ T.bf_) (Calls.loadGlobal_builtin G₁ m1 B₁ ((B2 b m3).trans m2) (hQ _ fun s2 Q2 E2 eh hq2 => ?_)) T.bd_
      have X2 : K.In s2.heap := by rw [eh]; exact X₁
      have LO : Looks (model prog w) s2.heap (opaqueClassAbove (.type T')) none := Looks.of_pure (by unfold opaqueClassAbove; dsimp only; rw [m5]; rfl)
      have L0 : Looks (model prog w) s2.heap (typeOf (.type T')) (.type "type") := Looks.of_pure m4
      have hg : findIn K (.type "type") "__getattribute__" = some (some (.builtin "type.__getattribute__")) := type_tga
      unfold getMethod specialOf
      refine wpAny_bind (wpAny_bind (L0.here ((looks_findIn X2 hg).here ?_)))
      dsimp only
      rw [if_pos canon_tga]
      refine wpAny_bind (wpAny_mono (Q := fun v => Q2 (v, [])) (E := E2) ?_ (fun _ _ z => wpAny_pure z) fun _ _ z => z)
      exact cls_open X2 LO L0 hg (looks_hook X2 (r := none) (by rfl)) (by show subIn K _ _ = _; rfl) m6
        (wpAny_pure (by show wpAny _ _ (handedOut _) _ _ _; rw [handedOut_of XB.hh]; exact wpAny_pure hq2))
  refine ldB fun ov hov => hov _ _ _ rfl ?_
  show wpAny _ _ (callWith q5 (Value.builtin initId) [] (backTo q5 (starEach [.Name "self" q3, .Constant (.str msg) j q4] _)) []) _ _ _
  refine PyProof.Rows.callWith_method1 (Calls.spliced_cons (ldL hn mS (Calls.spliced_cons (Calls.Constant_str (pos := q4) (k := j) (Calls.spliced_nil ?_))) rfl look_self (by decide))) (by rfl) (by rfl)
  show wpAny _ _ (call (.builtin initId) [.ref x, .str msg _]) _ _ _
  refine wpAny_call (init_base XB.F (fun Y => excTail_contains Y bm hbm) (X₁ _ _ hC) hx₁ (by rw [sizeLine_eq]; exact (by decide : 1 ≤ 16777216)) fun h₂ t1 k₂ hx₂ => ?_)
  -- self.f = f
  have X₂ : K.In h₂ := kept_but X₁ hnx k₂
  have hn₂ : h₂.Ns s.heap.objs.size _ := hn.at fun o e => k₂ _ o hxL e
  show wpAny _ _ (execs _ _) _ _ _
  refine wpAny_execs_cons (plainObj_wpAny_Assign_Attribute ?_)
  refine ldL hn₂ mF (ldL hn₂ mS ?_ rfl look_self (by decide)) rfl (look_f T.fs_) T.fd_
  refine set_plain X₂ (ox := excO C t1) (od := none) ⟨hx₂, rfl, rfl, trivial⟩ T.sa ?_
  refine osa_new XB.S X₂ hx₂ hcl ⟨bm, rfl, hbm⟩ rfl T.noN (fun h₃ tk₃ dx k₃ dn dne hx₃ hn₃ => ?_)
  show wpAny _ _ (execs _ _) _ _ _
  have z : s.heap.objs.size < h₂.objs.size := hn₂.lt
  exact wpAny_execs_nil (hq h₃ tk₃ dx ⟨fun b o hb e => k₃ b o hb (k₂ b o hb (k b o e)), ⟨_, hx₃⟩, Nat.le_of_lt (Nat.lt_of_lt_of_le z dn), dne, hn₃⟩)
theorem x_made (XB : XBase B newId initId bmB) (T : XcTxt K mg c f b C fI newId initId bmB) {v : Value} (X : K.In s.heap) (hlim : s.heap.NoLimit) (G : s.heap.Ns mainGlobals mg) (BL : ∃ mb, s.heap.Ns builtinsNs mb ∧ ∀ x : Str, x ≠ "__name__" → mb x = bootBuiltins x) (hroom : A.depth + 1 < recursionLimit)
    (hq : ∀ h' tk e d, XMade s.heap h' e C d f v → R (.ok (.ret (.ref e))) { s with heap := h', toks := tk }) :
    codeAny (model prog w) A (.call (.ref C) ⟨[v], []⟩) R s := by
  obtain ⟨nm, N, q, bs, bm, hdct, sn, sub, ab, col, dd, k0, k1, k2, k3, k5, hC, hbm⟩ := exc_cls T.ei
  obtain ⟨hp, g, dr, tk, os⟩ := s
  have k : ∀ b o, hp.get? b = some o → ((hp.push (kdv_tup [v])).push (excO C hp.objs.size)).get? b = some o := fun b o e => Heap.get?_push_of_some _ (Heap.get?_push_of_some _ e)
  have hget : ((hp.push (kdv_tup [v])).push (excO C hp.objs.size)).get? (hp.objs.size + 1) = some (excO C hp.objs.size) := by heap_get
  have hnx : K.lookup (hp.objs.size + 1) = none := by
    cases e : K.lookup (hp.objs.size + 1) with
    | none => rfl
    | some o =>
      have z : hp.get? (hp.objs.size + 1) = some o := X _ _ e
      exact absurd (Nat.lt_of_succ_lt (Heap.lt_size z)) (Nat.lt_irrefl _)
  have gm : hp.objs.size + 1 ≠ mainGlobals := fun z => by
    have := G.lt
    rw [← z] at this
    exact absurd (Nat.lt_of_succ_lt this) (Nat.lt_irrefl _)
  obtain ⟨mb, B1, B2⟩ := BL
  refine call_own XB.F (fun Y => excTail_contains Y bm hbm) (X _ _ hC) (looks_findIn X T.iC) (fun self => bind_fn X self T.tC) (by rw [sizeLine_eq]; exact (by decide : 1 ≤ 16777216)) ?_
  refine x_init (s := ⟨(hp.push (kdv_tup [v])).push (excO C hp.objs.size), g, dr, tk, os⟩) XB T (X.keeps k) (hlim.keeps k) (G.keeps k) ⟨mb, B1.keeps k, B2⟩ hget hnx ?_ gm fun h' tk' dx ⟨k', ⟨t1, hx⟩, dn, dne, hns⟩ => ?_
  · show A.depth + 1 < recursionLimit
    exact hroom
  · have old : ∀ b o, hp.get? b = some o → h'.get? b = some o := fun b o e => k' b o (Nat.ne_of_lt (Nat.lt_succ_of_lt (Heap.lt_size e))) (k b o e)
    have z : hp.objs.size + 1 + 1 ≤ dx := by
      first
        | (simpa only [Heap.size_push] using dn)
        | exact dn
        | (have q := dn; rw [Heap.size_push, Heap.size_push] at q; exact q)
    exact ⟨rfl, hq h' tk' (hp.objs.size + 1) dx ⟨old, Nat.le_succ _, ⟨_, _, hx, rfl, rfl, rfl, rfl⟩, Nat.le_trans (Nat.le_trans (Nat.le_succ _) (Nat.le_succ _)) z, dne, hns⟩⟩
end
end
end MiX

set_option Elab.async false
set_option linter.all false
set_option maxRecDepth 100000
set_option maxHeartbeats 1000000
namespace Mi
open PySem PySem.Spec PyProof.Rows L2

/-! ### raise C(e) -/
theorem relO_x {f : Str} {v : V} {v' : Value} (r : RelV v v') (g : Str) : L2.RelO (List.lookup g [(f, v)]) (if g = f then some v' else none) := by
  by_cases hw : g = f
  · subst hw
    rw [if_pos rfl]
    have q : List.lookup g [(g, v)] = some v := by simp [List.lookup]
    rw [q]
    exact r
  · rw [if_neg hw]
    have qw : (g == f) = false := by simpa using hw
    have q2 : List.lookup g [(f, v)] = none := by simp [List.lookup, qw]
    rw [q2]
    trivial
def tMkX (C : Addr) (f : Str) (ta : TA) : St → Hp → XK → Prop := fun σ H Q => ta σ H fun vs H1 => ∃ v, vs = [v] ∧ ∀ d, H1 d = none → Q (.ref C) (some d) (upd H1 d (.xd [(f, v)]))
section
variable {X : Cx} {C fI : Addr} {c f b : Str} {B newId initId : String} {bmB : List Value}
theorem pmk_x {a : Expr} {ta : TA} {p pos : Pos} {k : Nat} (XB : MiX.XBase B newId initId bmB) (T : MiX.XcTxt X.K X.mg c f b C fI newId initId bmB) (hr : RoomG k X.A) (ha : PA X [a] ta) (hg : Gl X c) (hcd : (c == ("__debug__" : Str)) = false)
    (he : starEach (a :: []) X.env = (false, eval a X.env) :: starEach [] X.env := by rfl) (hpl : (backTo pos (starEach [] X.env)).any (·.1) = false := by rfl) :
    PMk X (.Call (.Name c p) [a] [] pos) (tMkX C f ta) := by
  intro pins s σ H Q I h
  refine wpAny_Call_Name_kw (ld_glob I hg T.gC ?_ hcd)
  refine PySem.W.callWith_K (h₀ := X.base) I.ok.mod.kin T.kC (thn (ha.run pos pins s σ H _ I h) fun us s1 hh => ?_) he hpl
  obtain ⟨vs, H1, I1, r1, v, ev, q1⟩ := hh
  subst ev
  refine ⟨I1.kIn, ?_⟩
  cases r1 with
  | cons rv rn =>
    rename_i v' us'
    cases rn
    show wpAny _ _ (call (.ref C) [v']) _ _ _
    have hlim := I1.nolimit
    have hG : s1.heap.Ns mainGlobals X.mg := I1.ok.mod.glob.keeps I1.bk
    have hB : ∃ mb, s1.heap.Ns builtinsNs mb ∧ ∀ x : Str, x ≠ "__name__" → mb x = bootBuiltins x := by
      obtain ⟨mb, b1, b2⟩ := I1.ok.mod.blt
      exact ⟨mb, b1.keeps I1.bk, b2⟩
    obtain ⟨hp, g, dr, tk, os⟩ := s1
    refine wpAny_call (MiX.x_made XB T I1.kIn hlim hG hB (by have := hr.rm.dp; omega) fun h' tk' e d M => ?_)
    show MkP X pins σ Q (.ref e) ⟨h', g, dr, tk', os⟩
    obtain ⟨oe, fv, hoe, hc, hd, hdat, h1⟩ := M.obj
    have hns := M.ns
    obtain ⟨G', g1, g2⟩ := restrict h' fun b => decide (b ≠ e)
    have gk : ∀ b, b ≠ e → G'.get? b = h'.get? b := fun b hb => g1 b (decide_eq_true hb)
    have ge : G'.get? e = none := g2 e (by simp)
    have old : ∀ b o, hp.get? b = some o → G'.get? b = some o := fun b o q => (gk b (Nat.ne_of_lt (Nat.lt_of_lt_of_le (Heap.lt_size q) M.new))).trans (M.keep b o q)
    have ob : ObjOk X.prog X.w (upd H1 d (.xd [(f, v)])) G' d (.xd [(f, v)]) :=
      ⟨_, hns.at (fun o q => (gk d M.dne).trans q), fun g => relO_x rv g⟩
    have J : Inv X pins σ (upd H1 d (.xd [(f, v)])) ⟨G', g, dr, tk', os⟩ := I1.laid (t' := tk') old M.dbig ob
    refine ⟨e, oe, fv, ⟨G', g, dr, tk', os⟩, _, .ref C, some d, rfl, J, fun b o q => ?_, ge, hoe, ⟨hc, hd⟩, hdat, h1, ?_, rfl, I1.bare, raises_own T.exC T.tyC, q1 d (I1.hok.fresh M.dbig)⟩
    · by_cases hb : b = e
      · have q' : G'.get? b = some o := q
        rw [hb, ge] at q'; cases q'
      · exact (gk b hb).symm.trans q
    · rw [upd_ne (Ne.symm M.dne)]
      exact I1.hok.fresh M.new
@[simp] def sRaise (c f : Str) (fe : Fe) : Fs := sOf fe fun d env h => .ex ⟨c, f, d⟩ env h
theorem ds_raise {R : Rx} {W : WX} {a : Expr} {fe : Fe} {p pos pos2 : Pos} {k : Nat} (hc : X.calm = true) (hR : R.mg = X.mg) (XB : MiX.XBase B newId initId bmB) (T : MiX.XcTxt X.K X.mg c f b C fI newId initId bmB) (hr : RoomG k X.A) (tk : Takes X W) (ha : DE X R W a fe) (hg : Gl X c) (hcd : (c == ("__debug__" : Str)) = false := by decide)
    (hs : starEach [a] X.env = (false, eval a X.env) :: starEach [] X.env := by rfl) (hpl : (backTo pos (starEach [] X.env)).any (·.1) = false := by rfl) :
    DS X R W (.Raise (some (.Call (.Name c p) [a] [] pos)) none pos2) (sRaise c f fe) := by
  refine ⟨fun pins s σ H D I h => (ps_raise hc tk (pmk_x (pos := pos) (p := p) XB T hr (pa_cons ha pa_nil hs) hg hcd hs hpl)).run pins s σ H D I ?_⟩
  obtain ⟨α, env, hp, re, rh, fi⟩ := h
  refine ⟨α, env, hp, re, rh, (finS_of re fi).imp fun v H1 hq => ?_⟩
  obtain ⟨d, α1, h1, _, x1, rh1, r1, f1⟩ := hq
  refine ⟨v, rfl, fun dd hdd => ?_⟩
  have xs : Ext α1 H1 α1 (upd H1 dd (.xd [(f, v)])) := Ext.side hdd
  exact f1 α1 _ σ (.ref C) dd xs (rh1.side hdd) ((re.ext x1).ext xs) ⟨C, v, by rw [hR]; exact T.gC, rfl, upd_same, RelD.ext xs _ _ r1⟩
end
/-! ### what number an exception gets -/
mutual
def xid : D → Nat
  | .exc n _ _ d => max (n + 1) (xid d)
  | .exv _ _ d _ => xid d
  | .tup xs => xids xs
  | _ => 0
def xids : List D → Nat
  | [] => 0
  | d :: r => max (xid d) (xids r)
end
def xidK : List (Key × D) → Nat
  | [] => 0
  | (_, d) :: r => max (xid d) (xidK r)
def xidO : Ob → Nat
  | .lst xs => xids xs
  | .fro xs => xids xs
  | .dic xs => xidK xs
def xidH : Hd → Nat
  | [] => 0
  | o :: r => max (xidO o) (xidH r)
def xidE : En → Nat
  | [] => 0
  | none :: r => xidE r
  | some d :: r => max (xid d) (xidE r)
def fresh (env : En) (h : Hd) (e : Exn) : Nat := max (xidE env) (max (xidH h) (xid e.v))
def Rx.put (R : Rx) (n : Nat) (x : Addr × Value × Addr) : Rx := { R with xa := fun m => if m = n then some x else R.xa m }
section
variable {R : Rx} {α : List Addr} {H : Hp} {n : Nat} {x : Addr × Value × Addr}
theorem put_ne {m : Nat} (h : m ≠ n) : (R.put n x).xa m = R.xa m := if_neg h
theorem put_eq : (R.put n x).xa n = some x := if_pos rfl
mutual
theorem RelD.up : ∀ {d : D} {v : V}, xid d ≤ n → RelD R α H d v → RelD (R.put n x) α H d v
  | .non, _, _, h => by unfold RelD at h ⊢; exact h
  | .bl _, _, _, h => by unfold RelD at h ⊢; exact h
  | .int _, _, _, h => by unfold RelD at h ⊢; exact h
  | .str _, _, _, h => by unfold RelD at h ⊢; exact h
  | .tup xs, v, l, h => by
    unfold xid at l
    unfold RelD at h ⊢
    obtain ⟨a, vs, h1, h2, h3⟩ := h
    exact ⟨a, vs, h1, h2, RelDs.up l h3⟩
  | .ref n, v, _, h => by unfold RelD at h ⊢; exact h
  | .gl _, _, _, h => by unfold RelD at h ⊢; exact h
  | .ty _, _, _, h => by unfold RelD at h ⊢; exact h
  | .exc m c f d, v, l, h => by
    unfold xid at l
    unfold RelD at h ⊢
    intro a cls dd hx
    rw [put_ne (by omega)] at hx
    obtain ⟨h1, C, v', h2, h3, h4, h5⟩ := h a cls dd hx
    exact ⟨h1, C, v', h2, h3, h4, RelD.up (by omega) h5⟩
  | .lam _, _, _, h => by unfold RelD at h; exact h.elim
  | .exv c f d m, v, l, h => by
    unfold xid at l
    unfold RelD at h ⊢
    obtain ⟨a, dd, t, C, v', h1, h2, h3, h6, h4, h5⟩ := h
    exact ⟨a, dd, t, C, v', h1, h2, h3, h6, h4, RelD.up l h5⟩
theorem RelDs.up : ∀ {ds : List D} {vs : List V}, xids ds ≤ n → RelDs R α H ds vs → RelDs (R.put n x) α H ds vs
  | [], _, _, h => by unfold RelDs at h ⊢; exact h
  | d :: ds, vs, l, h => by
    unfold xids at l
    unfold RelDs at h ⊢
    obtain ⟨v, r, h1, h2, h3⟩ := h
    exact ⟨v, r, h1, RelD.up (by omega) h2, RelDs.up (by omega) h3⟩
end
mutual
theorem RelD.down (hn : R.xa n = none) : ∀ {d : D} {v : V}, RelD (R.put n x) α H d v → RelD R α H d v
  | .non, _, h => by unfold RelD at h ⊢; exact h
  | .bl _, _, h => by unfold RelD at h ⊢; exact h
  | .int _, _, h => by unfold RelD at h ⊢; exact h
  | .str _, _, h => by unfold RelD at h ⊢; exact h
  | .tup xs, v, h => by
    unfold RelD at h ⊢
    obtain ⟨a, vs, h1, h2, h3⟩ := h
    exact ⟨a, vs, h1, h2, RelDs.down hn h3⟩
  | .ref n, v, h => by unfold RelD at h ⊢; exact h
  | .gl _, _, h => by unfold RelD at h ⊢; exact h
  | .ty _, _, h => by unfold RelD at h ⊢; exact h
  | .exc m c f d, v, h => by
    unfold RelD at h ⊢
    intro a cls dd hx
    by_cases hm : m = n
    · rw [hm, hn] at hx; cases hx
    · obtain ⟨h1, C, v', h2, h3, h4, h5⟩ := h a cls dd (by rw [put_ne hm]; exact hx)
      exact ⟨h1, C, v', h2, h3, h4, RelD.down hn h5⟩
  | .lam _, _, h => by unfold RelD at h; exact h.elim
  | .exv c f d m, v, h => by
    unfold RelD at h ⊢
    obtain ⟨a, dd, t, C, v', h1, h2, h3, h6, h4, h5⟩ := h
    exact ⟨a, dd, t, C, v', h1, h2, h3, h6, h4, RelD.down hn h5⟩
theorem RelDs.down (hn : R.xa n = none) : ∀ {ds : List D} {vs : List V}, RelDs (R.put n x) α H ds vs → RelDs R α H ds vs
  | [], _, h => by unfold RelDs at h ⊢; exact h
  | d :: ds, vs, h => by
    unfold RelDs at h ⊢
    obtain ⟨v, r, h1, h2, h3⟩ := h
    exact ⟨v, r, h1, RelD.down hn h2, RelDs.down hn h3⟩
end
theorem RelKs.up : ∀ {ds : List (Key × D)} {vs : List (Key × V)}, xidK ds ≤ n → RelKs R α H ds vs → RelKs (R.put n x) α H ds vs
  | [], _, _, h => by unfold RelKs at h ⊢; exact h
  | (k, d) :: ds, vs, l, h => by
    unfold xidK at l
    unfold RelKs at h ⊢
    obtain ⟨v, r, h1, h2, h3⟩ := h
    exact ⟨v, r, h1, RelD.up (by omega) h2, RelKs.up (by omega) h3⟩
theorem RelKs.down (hn : R.xa n = none) : ∀ {ds : List (Key × D)} {vs : List (Key × V)}, RelKs (R.put n x) α H ds vs → RelKs R α H ds vs
  | [], _, h => by unfold RelKs at h ⊢; exact h
  | (k, d) :: ds, vs, h => by
    unfold RelKs at h ⊢
    obtain ⟨v, r, h1, h2, h3⟩ := h
    exact ⟨v, r, h1, RelD.down hn h2, RelKs.down hn h3⟩
theorem RelO.up {o : Ob} {a : Addr} (l : xidO o ≤ n) (h : RelO R α H o a) : RelO (R.put n x) α H o a := by
  cases o with
  | lst xs => obtain ⟨vs, q, t⟩ := h; exact ⟨vs, q, RelDs.up l t⟩
  | fro xs => obtain ⟨vs, ob, q, t⟩ := h; exact ⟨vs, ob, q, RelDs.up l t⟩
  | dic xs => obtain ⟨vs, q, t⟩ := h; exact ⟨vs, q, RelKs.up l t⟩
theorem RelO.down (hn : R.xa n = none) {o : Ob} {a : Addr} (h : RelO (R.put n x) α H o a) : RelO R α H o a := by
  cases o with
  | lst xs => obtain ⟨vs, q, t⟩ := h; exact ⟨vs, q, RelDs.down hn t⟩
  | fro xs => obtain ⟨vs, ob, q, t⟩ := h; exact ⟨vs, ob, q, RelDs.down hn t⟩
  | dic xs => obtain ⟨vs, q, t⟩ := h; exact ⟨vs, q, RelKs.down hn t⟩
theorem xidH_get : ∀ {h : Hd} {i : Nat} {o : Ob}, h[i]? = some o → xidO o ≤ xidH h
  | [], _, _, e => by simp at e
  | o :: r, 0, _, e => by simp at e; subst e; unfold xidH; omega
  | o :: r, i + 1, _, e => by
    have := xidH_get (h := r) (i := i) (by simpa using e)
    unfold xidH; omega
theorem xidE_get : ∀ {h : En} {i : Nat} {o : D}, h[i]? = some (some o) → xid o ≤ xidE h
  | [], _, _, e => by simp at e
  | some o :: r, 0, _, e => by simp at e; subst e; unfold xidE; omega
  | none :: r, 0, _, e => by simp at e
  | some o :: r, i + 1, _, e => by
    have := xidE_get (h := r) (i := i) (by simpa using e)
    unfold xidE; omega
  | none :: r, i + 1, _, e => by
    have := xidE_get (h := r) (i := i) (by simpa using e)
    unfold xidE; exact this
theorem RH.up {h : Hd} (l : xidH h ≤ n) (r : RH R α h H) : RH (R.put n x) α h H := ⟨r.len, r.nd, fun i o e => by
  obtain ⟨a, h1, h2⟩ := r.obj i o e
  exact ⟨a, h1, h2.up (Nat.le_trans (xidH_get e) l)⟩, r.tab, r.kp⟩
theorem RH.down {h : Hd} (hn : R.xa n = none) (r : RH (R.put n x) α h H) : RH R α h H := ⟨r.len, r.nd, fun i o e => by
  obtain ⟨a, h1, h2⟩ := r.obj i o e
  exact ⟨a, h1, h2.down hn⟩, r.tab, r.kp⟩
theorem RelEnv.up {env : En} {σ : St} (l : xidE env ≤ n) (r : RelEnv R α H env σ) : RelEnv (R.put n x) α H env σ := ⟨r.1, fun i d e => by
  obtain ⟨v, h1, h2⟩ := r.2 i d e
  refine ⟨v, h1, ?_⟩
  have k : xid d ≤ n := Nat.le_trans (xidE_get e) l
  cases d <;> first | exact h2 | exact .of (RelD.up k h2)⟩
theorem RelEnv.down {env : En} {σ : St} (hn : R.xa n = none) (r : RelEnv (R.put n x) α H env σ) : RelEnv R α H env σ := ⟨r.1, fun i d e => by
  obtain ⟨v, h1, h2⟩ := r.2 i d e
  refine ⟨v, h1, ?_⟩
  cases d <;> first | exact h2 | exact .of (RelD.down hn h2)⟩
end
/-! ### try: .. except C as n: .. -/
@[simp] def sAft (i : Nat) : SRes → SRes
  | .nx env h => .nx (env.set i none) h
  | .bk env h => .bk (env.set i none) h
  | .ct env h => .ct (env.set i none) h
  | .rt d h => .rt d h
  | _ => .no
@[simp] def sTryAs (i : Nat) (mt : Str → Option Bool) (body : Fs) (suite : Nat → Fs) : Fs := fun env h => match body env h with
  | .ex e env1 h1 => (match mt e.c with
    | some true => sAft i (suite (fresh env1 h1 e) (env1.set i (some (.exc (fresh env1 h1 e) e.c e.f e.v))) h1)
    | some false => .ex e env1 h1
    | none => .no)
  | r => r
section
variable {X : Cx} {R : Rx} {W : WX} {x nm : Str} {c : Value} {i : Nat} {body suite : List Stmt} {b₀ : Stmt} {np pos pos' : Pos} {fb : Fs} {fs : Nat → Fs} {mt : Str → Option Bool}
theorem fin_aft {n : Nat} {y : Addr × Value × Addr} {α : List Addr} {H : Hp} {Dn : Ends} {r : SRes} (hn : R.xa n = none) (f : FinS R W α H Dn (sAft i r)) :
    FinS (R.put n y) W0 α H { nx := fun σ' H' => Dn.nx (σ'.set i none) H', rt := Dn.rt, bk := fun σ' H' => Dn.bk (σ'.set i none) H', ct := fun σ' H' => Dn.ct (σ'.set i none) H' } r := by
  cases r with
  | nx env h => exact fun α' H' σ' x rh re => f α' H' _ x (rh.down hn) (re.down hn).clear
  | rt d h => exact fun α' H' v x rh rd => f α' H' _ x (rh.down hn) (rd.down hn)
  | bk env h => exact fun α' H' σ' x rh re => f α' H' _ x (rh.down hn) (re.down hn).clear
  | ct env h => exact fun α' H' σ' x rh re => f α' H' _ x (rh.down hn) (re.down hn).clear
  | ex e env h => exact (show False from f).elim
  | no => exact (show False from f).elim
theorem ds_tryAs (hs : X.stack = X.env :: X.outer) (hf : X.env.frame = some X.env.locals) (hN : X.N.Nodup) (hR : R.mg = X.mg) (hR0 : ∀ n, R.xa n = none) (hc : Names X x c) (tk : Takes X W)
    (hmt : ∀ c' b, mt c' = some b → ∀ C, X.mg c' = some (.ref C) → PySem.W.exmOne X.K (.ref C) c = some b)
    (hb : ∀ (W' : WX) (pn : List (Addr × Obj)) (xe : Value → Shared → Prop), Takes (X.tr pn xe) W' → PassesOwn (model X.prog X.w) X.A X.env xe → DSs (X.tr pn xe) R W' body fb)
    (hsu : ∀ (a : Addr) (oe : Obj) (cls : Value) (dd : Addr) (pn : List (Addr × Obj)) (n : Nat), Zc cls (some dd) oe → (∃ vs, oe.data = .fields vs) → DSs (X.suite a ((a, oe) :: pn)) (R.put n (a, cls, dd)) W0 (b₀ :: suite) (fs n))
    (hi : X.N[i]? = some nm := by rfl) (hln : X.env.kindOf nm = some .local := by rfl) :
    DS X R W (.Try body [.ExceptHandler (some (.Name x np)) (some nm) (b₀ :: suite) pos'] [] [] pos) (sTryAs i mt fb fs) := by
  refine ⟨fun pins s σ H D I h => (ps_try_as (tb := fun W' => tS R W' fb) (ts := fun a cls d D σ H => ∃ dd n, d = some dd ∧ tS (R.put n (a, cls, dd)) W0 (fs n) D σ H) hs hf hN hi hln hc tk hb (fun a oe cls d pn hz hv => ⟨fun pins s σ H D I h => ?_⟩)).run pins s σ H D I ?_⟩
  · obtain ⟨dd, n, rfl, q⟩ := h
    exact (hsu a oe cls dd pn n hz hv).run pins s σ H D I q
  · obtain ⟨α, env, hp, re, rh, fi⟩ := h
    refine ⟨α, env, hp, re, rh, ?_⟩
    unfold sTryAs at fi
    cases er : fb env hp with
    | nx env1 h1 => rw [er] at fi; exact fi
    | rt d h1 => rw [er] at fi; exact fi
    | bk d h1 => rw [er] at fi; exact fi
    | ct d h1 => rw [er] at fi; exact fi
    | no => rw [er] at fi; exact fi
    | ex e env1 h1 =>
      rw [er] at fi
      dsimp only at fi
      intro α1 H1 σ1 cls dd x1 rh1 re1 rx
      obtain ⟨C, v', g1, g2, g3, g4⟩ := rx
      cases em : mt e.c with
      | none => rw [em] at fi; exact (show False from fi).elim
      | some b =>
        rw [em] at fi
        refine ⟨b, by rw [g2]; exact hmt _ _ em C (by rw [← hR]; exact g1), fun hb a ha => ?_, fun hb => ?_⟩
        · subst hb
          refine ⟨dd, fresh env1 h1 e, rfl, α1, _, h1, ?_, rh1.up (by unfold fresh; omega), (fin_aft (hR0 _) fi).mono x1⟩
          refine RelEnv.set (re1.up (by unfold fresh; omega)) ?_
          unfold RelD
          intro a' cls' dd' hx
          rw [put_eq] at hx
          cases hx
          exact ⟨rfl, C, v', g1, g2, g3, g4.up (by unfold fresh; omega)⟩
        · subst hb
          exact fi α1 H1 σ1 cls dd x1 rh1 re1 ⟨C, v', g1, g2, g3, g4⟩
/-! ### the field of the exception in the suite -/
@[simp] def eFld (n : Nat) (f : Str) (cs : List Str) (fe : Fe) : Fe := fun env h => (fe env h).bind fun d h1 => match d with
  | .exc m c g v => if (m == n && (g == f && cs.contains c)) = true then .ok v h1 else .no
  | _ => .no
theorem de_fld {e : Expr} {fe : Fe} {f : Str} {cs : List Str} {n : Nat} {a : Addr} {oe : Obj} {cls : Value} {dd : Addr} {pn : List (Addr × Obj)} (hR : R.mg = X.mg) (hz : Zc cls (some dd) oe) (hv : ∃ vs, oe.data = .fields vs)
    (hT : ∀ c ∈ cs, ∃ b C fI newId initId bmB, MiX.XcTxt X.K X.mg c f b C fI newId initId bmB) (he : DE (X.suite a ((a, oe) :: pn)) (R.put n (a, cls, dd)) W e fe)
    (hb : attributeBase e f X.env (eval e X.env) = eval e X.env := by rfl) :
    DE (X.suite a ((a, oe) :: pn)) (R.put n (a, cls, dd)) W (.Attribute e f pos) (eFld n f cs fe) := by
  refine ⟨fun pins s σ H Q I h => ?_⟩
  obtain ⟨α, env, hp, re, rh, fi⟩ := h
  refine attr_of hb (thn (he.run pins s σ H _ I ⟨α, env, hp, re, rh, Fin.split fi⟩) fun u s1 hh => ?_)
  obtain ⟨v, H1, I1, ru, d, α1, h1, _, x1, rh1, rd, f1⟩ := hh
  cases d with
  | exc m c g dv =>
    dsimp only at f1
    split at f1
    · rename_i hk
      rw [Bool.and_eq_true, Bool.and_eq_true, beq_iff_eq, beq_iff_eq] at hk
      obtain ⟨rfl, rfl, hcs⟩ := hk
      unfold RelD at rd
      obtain ⟨rfl, C, v', g1, g2, g3, g4⟩ := rd a cls dd put_eq
      obtain ⟨b, C', fI, newId, initId, bmB, T⟩ := hT c (by simpa using hcs)
      have g1 : R.mg c = some (.ref C) := g1
      rw [hR, T.gC] at g1
      cases g1
      subst g2
      obtain rfl : u = Value.ref a := ru
      obtain ⟨ha, _⟩ := I1.pin (a, oe) (List.mem_append_left _ List.mem_cons_self)
      obtain ⟨vs, hd⟩ := hv
      have hx : ObjOk X.prog X.w H1 s1.heap dd (.xd [(g, v')]) := I1.hok dd _ g3
      obtain ⟨mA, hns, hr⟩ := hx
      obtain ⟨od, ho, hl⟩ := lookIn_ns hns
      have l : List.lookup g [(g, v')] = some v' := by simp [List.lookup]
      obtain ⟨u, hu, ru⟩ := L2.RelO.some_of (v := v') (o := mA g) (by rw [← l]; exact hr g)
      have J : PySem.W.InstAt s1.heap a oe C (some od) := ⟨ha, hz.1, by unfold PySem.W.notCls; rw [hd] <;> rfl, by rw [hz.2]; exact ho⟩
      exact HandSPX.exc_get I1.kIn J T.ga T.gg T.exC (PySem.W.findObj_own T.hd T.noN rfl (by rw [hl, hu])) (handed_of ru) ⟨v', H1, I1.tok _, ru, f1 α1 H1 v' .refl rh1 g4⟩
    · exact f1.elim
  | _ => exact (show False from f1).elim
end
end Mi

set_option Elab.async false
set_option linter.all false
set_option maxRecDepth 100000
set_option maxHeartbeats 1000000
namespace Mi
open PySem PySem.Spec PyProof.Rows L2

/-! ### data -/
def toP : Nat → Hd → D → Option PyData
  | 0, _, _ => none
  | _ + 1, _, .non => some .none
  | _ + 1, _, .bl b => some (.bool b)
  | _ + 1, _, .int i => some (.int i)
  | _ + 1, _, .str x => some (.str x)
  | n + 1, h, .tup xs => (xs.mapM (toP n h)).map .tuple
  | n + 1, h, .ref k => (match h[k]? with
    | some (.lst xs) => (xs.mapM (toP n h)).map .list
    | some (.fro xs) => (xs.mapM (toP n h)).map .list
    | _ => none)
  | _ + 1, _, _ => none
section
variable {R : Rx} {α : List Addr} {H : Hp} {h : Hd}
theorem toP_all {n : Nat} (ih : ∀ {d : D} {v : V} {p : PyData}, toP n h d = some p → RelD R α H d v → Dp R.K H v p) : ∀ {ds : List D} {vs : List V} {ps : List PyData}, ds.mapM (toP n h) = some ps → RelDs R α H ds vs → DpAll R.K H vs ps
  | [], vs, ps, e, r => by
    rw [r.nil_inv]
    simp at e
    subst e
    exact .nil
  | d :: ds, vs, ps, e, r => by
    obtain ⟨v, r', rfl, h1, h2⟩ := r.cons_inv
    rw [List.mapM_cons] at e
    cases e1 : toP n h d with
    | none => rw [e1] at e; simp at e
    | some p =>
      rw [e1] at e
      cases e2 : ds.mapM (toP n h) with
      | none => rw [e2] at e; simp at e
      | some ps' =>
        rw [e2] at e
        simp at e
        subst e
        exact .cons (ih e1 h1) (toP_all ih e2 h2)
theorem toP_dp (rh : RH R α h H) : ∀ {n : Nat} {d : D} {v : V} {p : PyData}, toP n h d = some p → RelD R α H d v → Dp R.K H v p
  | 0, _, _, _, e, _ => by unfold toP at e; cases e
  | n + 1, .non, v, p, e, r => by unfold toP at e; cases e; rw [r.non_inv]; exact .non
  | n + 1, .bl b, v, p, e, r => by unfold toP at e; cases e; rw [r.bl_inv]; exact .bl b
  | n + 1, .int b, v, p, e, r => by unfold toP at e; cases e; rw [r.int_inv]; exact .int b
  | n + 1, .str b, v, p, e, r => by unfold toP at e; cases e; rw [r.str_inv]; exact .str b
  | n + 1, .tup xs, v, p, e, r => by
    unfold toP at e
    cases e2 : xs.mapM (toP n h) with
    | none => rw [e2] at e; cases e
    | some ps =>
      rw [e2] at e
      cases e
      obtain ⟨a, vs, rfl, h1, h2⟩ := r.tup_inv
      exact .tup h1 (toP_all (fun x y => toP_dp rh x y) e2 h2)
  | n + 1, .ref k, v, p, e, r => by
    unfold toP at e
    obtain ⟨a, ha, rfl⟩ := r.ref_inv
    have go : ∀ xs, (h[k]? = some (.lst xs) ∨ h[k]? = some (.fro xs)) → (xs.mapM (toP n h)).map PyData.list = some p → Dp R.K H (.ref a) p := fun xs hx e => by
      obtain ⟨vs, h1, h2⟩ := lst_of rh ha hx
      cases e2 : xs.mapM (toP n h) with
      | none => rw [e2] at e; cases e
      | some ps =>
        rw [e2] at e
        cases e
        exact .lst h1 (toP_all (fun x y => toP_dp rh x y) e2 h2)
    cases e3 : h[k]? with
    | none => rw [e3] at e; cases e
    | some o =>
      rw [e3] at e
      cases o with
      | lst xs => exact go xs (.inl e3) e
      | fro xs => exact go xs (.inr e3) e
      | dic xs => cases e
  | n + 1, .gl _, _, _, e, _ => by unfold toP at e; cases e
  | n + 1, .ty _, _, _, e, _ => by unfold toP at e; cases e
  | n + 1, .exc _ _ _ _, _, _, e, _ => by unfold toP at e; cases e
end
def maxP : Nat := 24
def eqDeep (x y : D) (h : Hd) (k : Bool → Bool) : Res D := match toP maxP h x, toP maxP h y with
  | some d, some e => if (SeqAt.shaped d && SeqAt.shaped e) = true then .ok (.bl (k (PyData.eqv d e))) h else .no
  | _, _ => .no
@[simp] def eqB (x y : D) (h : Hd) (k : Bool → Bool) : Res D := match x, y with
  | .int i, .int j => .ok (.bl (k (decide (i = j)))) h
  | .str i, .str j => .ok (.bl (k (decide (i = j)))) h
  | .bl i, .bl j => .ok (.bl (k (decide (i = j)))) h
  | _, _ => eqDeep x y h k
@[simp] def gEq : D → D → Hd → Res D := fun x y h => eqB x y h id
@[simp] def gNe : D → D → Hd → Res D := fun x y h => eqB x y h not
/-! ### arithmetic -/
def mulOk (i j : Int) : Bool := decide (i.natAbs < 18446744073709551616) || decide (j.natAbs < 18446744073709551616) || decide (i.natAbs.log2 + j.natAbs.log2 < 1000000)
def b2 (b : Bool) : Int := if b = true then 1 else 0
@[simp] def gAdd : D → D → Hd → Res D := fun x y h => match x, y with
  | .int i, .int j => .ok (.int (i + j)) h
  | .str a, .str b => if a.length + b.length ≤ 16777216 then .ok (.str (a ++ b)) h else .no
  | .tup xs, .tup ys => if xs.length + ys.length ≤ 16777216 then .ok (.tup (xs ++ ys)) h else .no
  | .ref a, .ref b => (match h[a]?, h[b]? with
    | some (.lst xs), some (.lst ys) => if xs.length + ys.length ≤ 16777216 then .ok (.ref h.length) (h ++ [.lst (xs ++ ys)]) else .no
    | _, _ => .no)
  | _, _ => .no
@[simp] def gSub : D → D → Hd → Res D := fun x y h => match x, y with
  | .int i, .int j => .ok (.int (i - j)) h
  | _, _ => .no
def gMul : D → D → Hd → Res D := fun x y h => match x, y with
  | .int i, .int j => if mulOk i j = true then .ok (.int (i * j)) h else .no
  | .ref a, .int k => (match h[a]? with
    | some (.lst xs) => if (rngOk k && decide (xs.length * k.toNat ≤ 16777216)) = true then .ok (.ref h.length) (h ++ [.lst (List.replicate k.toNat xs).flatten]) else .no
    | _ => .no)
  | .tup xs, .int k => if (!xs.isEmpty && decide (2 ≤ k) && decide (k ≤ 1000) && decide (xs.length ≤ 1000)) = true then .ok (.tup (List.replicate k.toNat xs).flatten) h else .no
  | _, _ => .no
def gFdv : D → D → Hd → Res D := fun x y h => match x, y with
  | .int i, .int j => if (decide (j ≠ 0) && decide (j.natAbs < 1073741824)) = true then .ok (.int (i.fdiv j)) h else .no
  | _, _ => .no
def gMod : D → D → Hd → Res D := fun x y h => match x, y with
  | .int i, .int j => if decide (j ≠ 0) = true then .ok (.int (i.fmod j)) h else .no
  | _, _ => .no
def gPow : D → D → Hd → Res D := fun x y h => match x, y with
  | .int i, .int j => if (decide (0 ≤ j) && decide (j ≤ 1000000) && decide (i.natAbs < 18446744073709551616)) = true then .ok (.int (i ^ j.toNat)) h else .no
  | _, _ => .no
@[simp] def gNeg : D → Hd → Res D := fun x h => match x with
  | .int i => .ok (.int (-i)) h
  | _ => .no
@[simp] def intsD : List D → Option (List Int)
  | [] => some []
  | .int i :: r => (match intsD r with
    | some l => some (i :: l)
    | none => none)
  | _ => none
@[simp] def gLt : D → D → Hd → Res D := fun x y h => match x, y with
  | .int i, .int j => .ok (.bl (decide (i < j))) h
  | .str i, .str j => .ok (.bl (decide (i.cps.toList < j.cps.toList))) h
  | .tup xs, .tup ys => (match intsD xs, intsD ys with
    | some ns, some ms => .ok (.bl (HT.lexLt ns ms)) h
    | _, _ => .no)
  | _, _ => .no
@[simp] def gLe : D → D → Hd → Res D := fun x y h => match x, y with
  | .int i, .int j => .ok (.bl (decide (i ≤ j))) h
  | _, _ => .no
@[simp] def gGt : D → D → Hd → Res D := fun x y h => match x, y with
  | .int i, .int j => .ok (.bl (decide (j < i))) h
  | _, _ => .no
@[simp] def gGe : D → D → Hd → Res D := fun x y h => match x, y with
  | .int i, .int j => .ok (.bl (decide (j ≤ i))) h
  | _, _ => .no
@[simp] def isNon : D → Option Bool
  | .non => some true
  | .exc _ _ _ _ => none
  | .lam _ => none
  | _ => some false
@[simp] def gIs : D → D → Hd → Res D := fun x y h => match y with
  | .non => (match isNon x with
    | some b => .ok (.bl b) h
    | none => .no)
  | .bl k => (match x with
    | .bl b => .ok (.bl (b == k)) h
    | _ => .no)
  | _ => .no
@[simp] def gIsNot : D → D → Hd → Res D := fun x y h => match y with
  | .non => (match isNon x with
    | some b => .ok (.bl (!b)) h
    | none => .no)
  | .bl k => (match x with
    | .bl b => .ok (.bl (!(b == k))) h
    | _ => .no)
  | _ => .no
def gIn (neg : Bool) : D → D → Hd → Res D := fun x y h => match y with
  | .ref k => (match toP maxP h x, toP maxP h (.ref k) with
    | some d, some (.list ds) => if (SeqAt.shaped d && SeqAt.shaped (.list ds)) = true then .ok (.bl (xor neg (ds.any fun z => PyData.eqv z d))) h else .no
    | _, _ => .no)
  | _ => .no
section
variable {Tt : List (Addr × Str)} {X : Cx} {R : Rx}
theorem intsD_rel {α : List Addr} {H : Hp} : ∀ {ds : List D} {ns : List Int} {vs : List V}, intsD ds = some ns → RelDs R α H ds vs → vs = ns.map V.int
  | [], ns, vs, e, r => by unfold intsD at e; cases e; rw [r.nil_inv]; rfl
  | d :: ds, ns, vs, e, r => by
    obtain ⟨v, r', rfl, h1, h2⟩ := r.cons_inv
    cases d with
    | int i =>
      unfold intsD at e
      cases e2 : intsD ds with
      | none => rw [e2] at e; cases e
      | some l =>
        rw [e2] at e
        cases e
        rw [intsD_rel e2 h2, h1.int_inv]
        rfl
    | _ => unfold intsD at e; cases e
theorem od_eq (hK : R.K = X.K) (hu : X.A.units + 64 < cLine) : OpD X R (compareOp .Eq) gEq := by
  intro x y α h H vx vy W σ Q rh rx ry f
  have deep : FinE R W α H σ (eqDeep x y h id) Q → ∃ r, OpR X (compareOp .Eq) r ∧ r vx vy H Q := fun f => by
    unfold eqDeep at f
    cases e1 : toP maxP h x with
    | none => rw [e1] at f; exact f.elim
    | some d =>
      cases e2 : toP maxP h y with
      | none => rw [e1, e2] at f; exact f.elim
      | some e =>
        rw [e1, e2] at f
        dsimp only at f
        split at f
        · rename_i hs
          rw [Bool.and_eq_true] at hs
          exact ⟨_, op_eqD hu, d, e, hK ▸ toP_dp rh e1 rx, hK ▸ toP_dp rh e2 ry, hs.1, hs.2, f α H _ .refl rh .bl⟩
        · exact f.elim
  cases x with
  | int i =>
    cases y with
    | int j =>
      rw [rx.int_inv, ry.int_inv]
      have e : decide (V.int i = V.int j) = decide (i = j) := by rw [Bool.eq_iff_iff]; simp
      exact ⟨_, op_eq, rfl, by rw [e]; exact f α H _ .refl rh .bl⟩
    | _ => exact deep f
  | str i =>
    cases y with
    | str j =>
      rw [rx.str_inv, ry.str_inv]
      have e : decide (V.str i = V.str j) = decide (i = j) := by rw [Bool.eq_iff_iff]; simp
      exact ⟨_, op_eq, rfl, by rw [e]; exact f α H _ .refl rh .bl⟩
    | _ => exact deep f
  | bl i =>
    cases y with
    | bl j =>
      rw [rx.bl_inv, ry.bl_inv]
      have e : decide (V.bl i = V.bl j) = decide (i = j) := by rw [Bool.eq_iff_iff]; simp
      exact ⟨_, op_eq, rfl, by rw [e]; exact f α H _ .refl rh .bl⟩
    | _ => exact deep f
  | _ => exact deep f
theorem od_ne (hK : R.K = X.K) (hu : X.A.units + 64 < cLine) : OpD X R (compareOp .NotEq) gNe := by
  intro x y α h H vx vy W σ Q rh rx ry f
  have deep : FinE R W α H σ (eqDeep x y h not) Q → ∃ r, OpR X (compareOp .NotEq) r ∧ r vx vy H Q := fun f => by
    unfold eqDeep at f
    cases e1 : toP maxP h x with
    | none => rw [e1] at f; exact f.elim
    | some d =>
      cases e2 : toP maxP h y with
      | none => rw [e1, e2] at f; exact f.elim
      | some e =>
        rw [e1, e2] at f
        dsimp only at f
        split at f
        · rename_i hs
          rw [Bool.and_eq_true] at hs
          exact ⟨_, op_neD hu, d, e, hK ▸ toP_dp rh e1 rx, hK ▸ toP_dp rh e2 ry, hs.1, hs.2, f α H _ .refl rh .bl⟩
        · exact f.elim
  cases x with
  | int i =>
    cases y with
    | int j =>
      rw [rx.int_inv, ry.int_inv]
      have e : decide (V.int i = V.int j) = decide (i = j) := by rw [Bool.eq_iff_iff]; simp
      exact ⟨_, op_ne, rfl, by rw [e]; exact f α H _ .refl rh .bl⟩
    | _ => exact deep f
  | str i =>
    cases y with
    | str j =>
      rw [rx.str_inv, ry.str_inv]
      have e : decide (V.str i = V.str j) = decide (i = j) := by rw [Bool.eq_iff_iff]; simp
      exact ⟨_, op_ne, rfl, by rw [e]; exact f α H _ .refl rh .bl⟩
    | _ => exact deep f
  | bl i =>
    cases y with
    | bl j =>
      rw [rx.bl_inv, ry.bl_inv]
      have e : decide (V.bl i = V.bl j) = decide (i = j) := by rw [Bool.eq_iff_iff]; simp
      exact ⟨_, op_ne, rfl, by rw [e]; exact f α H _ .refl rh .bl⟩
    | _ => exact deep f
  | _ => exact deep f
theorem od_add (hK : R.K = X.K) : OpD X R (binaryOp .Add) gAdd := by
  intro x y α h H vx vy W σ Q rh rx ry f
  cases x with
  | int i =>
    cases y with
    | int j => rw [rx.int_inv, ry.int_inv]; exact ⟨_, op_add, i, j, rfl, rfl, f α H _ .refl rh .int⟩
    | _ => exact (show False from f).elim
  | str i =>
    cases y with
    | str j =>
      unfold gAdd at f
      dsimp only at f
      split at f
      · rename_i hl
        rw [rx.str_inv, ry.str_inv]
        exact ⟨_, op_add_str, i, j, rfl, rfl, by rw [lineEq]; exact hl, f α H _ .refl rh .str⟩
      · exact f.elim
    | _ => exact (show False from f).elim
  | tup xs =>
    cases y with
    | tup ys =>
      unfold gAdd at f
      dsimp only at f
      split at f
      · rename_i hl
        obtain ⟨a, vs, rfl, q1, r1⟩ := rx.tup_inv
        obtain ⟨b, ws, rfl, q2, r2⟩ := ry.tup_inv
        refine ⟨_, op_catA, a, b, vs, ws, rfl, rfl, hK ▸ q1, hK ▸ q2, by rw [← r1.length, ← r2.length, lineEq]; exact hl, fun e => ?_, fun _ e => ?_, fun _ _ p hp => ?_⟩
        · subst e
          have : xs = [] := List.length_eq_zero_iff.mp r1.length
          subst this
          exact f α H _ .refl rh (.tup q2 r2)
        · subst e
          have : ys = [] := List.length_eq_zero_iff.mp r2.length
          subst this
          rw [List.append_nil] at f
          exact f α H _ .refl rh (.tup q1 r1)
        · obtain ⟨a1, b1, c1⟩ := new_tup rh (r1.append r2) hp
          exact f α _ _ a1 b1 c1
      · exact f.elim
    | _ => exact (show False from f).elim
  | ref m =>
    cases y with
    | ref n =>
      unfold gAdd at f
      dsimp only at f
      obtain ⟨a, ea, rfl⟩ := rx.ref_inv
      obtain ⟨b, eb, rfl⟩ := ry.ref_inv
      obtain ⟨o1, e1, ro1⟩ := rh.at ea
      obtain ⟨o2, e2, ro2⟩ := rh.at eb
      rw [e1, e2] at f
      cases o1 with
      | lst xs =>
        cases o2 with
        | lst ys =>
          obtain ⟨vs, q1, r1⟩ := ro1
          obtain ⟨ws, q2, r2⟩ := ro2
          dsimp only at f
          split at f
          · rename_i hl
            refine ⟨_, op_cat, a, b, vs, ws, rfl, rfl, q1, q2, by rw [← r1.length, ← r2.length, lineEq]; exact hl, fun p hp => ?_⟩
            obtain ⟨a1, b1, c1⟩ := new_lst rh (r1.append r2) hp
            exact f _ _ _ a1 b1 c1
          · exact f.elim
        | _ => exact (show False from f).elim
      | _ => exact (show False from f).elim
    | _ => exact (show False from f).elim
  | _ => exact (show False from f).elim
theorem od_sub : OpD X R (binaryOp .Sub) gSub := by
  intro x y α h H vx vy W σ Q rh rx ry f
  cases x with
  | int i =>
    cases y with
    | int j => rw [rx.int_inv, ry.int_inv]; exact ⟨_, op_sub, i, j, rfl, rfl, f α H _ .refl rh .int⟩
    | _ => exact (show False from f).elim
  | _ => exact (show False from f).elim
theorem od_mul (hK : R.K = X.K) : OpD X R (binaryOp .Mult) gMul := by
  intro x y α h H vx vy W σ Q rh rx ry f
  cases x with
  | int i =>
    cases y with
    | int j =>
      unfold gMul at f
      dsimp only at f
      split at f
      · rename_i hm
        rw [rx.int_inv, ry.int_inv]
        unfold mulOk at hm
        rw [Bool.or_eq_true, Bool.or_eq_true, decide_eq_true_eq, decide_eq_true_eq, decide_eq_true_eq] at hm
        have e : (2 : Int) ^ 64 = 18446744073709551616 := by decide
        rcases hm with hm | hm
        · exact ⟨_, op_mul, i, j, rfl, rfl, by unfold CMul; rw [e]; omega, f α H _ .refl rh .int⟩
        · exact ⟨_, op_mulW, i, j, rfl, rfl, hm, f α H _ .refl rh .int⟩
      · exact f.elim
    | _ => exact (show False from f).elim
  | ref m =>
    cases y with
    | int k =>
      unfold gMul at f
      dsimp only at f
      obtain ⟨a, ea, rfl⟩ := rx.ref_inv
      obtain ⟨o1, e1, ro1⟩ := rh.at ea
      rw [e1] at f
      cases o1 with
      | lst xs =>
        obtain ⟨vs, q1, r1⟩ := ro1
        dsimp only at f
        split at f
        · rename_i hl
          rw [Bool.and_eq_true, decide_eq_true_eq] at hl
          obtain ⟨k0, k3⟩ := hl
          obtain ⟨k1, k2⟩ := rngOk_of k0
          have e : (2 : Int) ^ 63 = 9223372036854775808 := by decide
          have e' : (2 : Int) ^ 62 = 4611686018427387904 := by decide
          rw [e'] at k1 k2
          rw [ry.int_inv]
          refine ⟨_, op_rep, a, k, vs, rfl, rfl, q1, by rw [e]; omega, by rw [e]; omega, by rw [← r1.length, lineEq]; exact k3, fun p hp => ?_⟩
          obtain ⟨a1, b1, c1⟩ := new_lst rh (r1.rep k.toNat) hp
          exact f _ _ _ a1 b1 c1
        · exact f.elim
      | _ => exact (show False from f).elim
    | _ => exact (show False from f).elim
  | tup xs =>
    cases y with
    | int k =>
      unfold gMul at f
      dsimp only at f
      split at f
      · rename_i hl
        rw [Bool.and_eq_true, Bool.and_eq_true, Bool.and_eq_true, decide_eq_true_eq, decide_eq_true_eq, decide_eq_true_eq] at hl
        obtain ⟨⟨⟨k0, k1⟩, k2⟩, k3⟩ := hl
        obtain ⟨a, vs, rfl, q1, r1⟩ := rx.tup_inv
        rw [ry.int_inv]
        refine ⟨_, op_repT, a, k, vs, rfl, rfl, hK ▸ q1, fun e => ?_, k1, k2, by rw [← r1.length]; exact k3, fun p hp => ?_⟩
        · subst e
          have : xs = [] := List.length_eq_zero_iff.mp r1.length
          subst this
          cases k0
        · obtain ⟨a1, b1, c1⟩ := new_tup rh (r1.rep k.toNat) hp
          exact f α _ _ a1 b1 c1
      · exact f.elim
    | _ => exact (show False from f).elim
  | _ => exact (show False from f).elim
theorem od_fdv : OpD X R (binaryOp .FloorDiv) gFdv := by
  intro x y α h H vx vy W σ Q rh rx ry f
  cases x with
  | int i =>
    cases y with
    | int j =>
      unfold gFdv at f
      dsimp only at f
      split at f
      · rename_i hm
        rw [Bool.and_eq_true, decide_eq_true_eq, decide_eq_true_eq] at hm
        rw [rx.int_inv, ry.int_inv]
        exact ⟨_, op_fdivN, i, j, rfl, rfl, hm, f α H _ .refl rh .int⟩
      · exact f.elim
    | _ => exact (show False from f).elim
  | _ => exact (show False from f).elim
theorem od_mod : OpD X R (binaryOp .Mod) gMod := by
  intro x y α h H vx vy W σ Q rh rx ry f
  cases x with
  | int i =>
    cases y with
    | int j =>
      unfold gMod at f
      dsimp only at f
      split at f
      · rename_i hm
        rw [decide_eq_true_eq] at hm
        rw [rx.int_inv, ry.int_inv]
        exact ⟨_, op_modN, i, j, rfl, rfl, hm, f α H _ .refl rh .int⟩
      · exact f.elim
    | _ => exact (show False from f).elim
  | _ => exact (show False from f).elim
theorem od_pow : OpD X R (binaryOp .Pow) gPow := by
  intro x y α h H vx vy W σ Q rh rx ry f
  cases x with
  | int i =>
    cases y with
    | int j =>
      unfold gPow at f
      dsimp only at f
      split at f
      · rename_i hm
        rw [Bool.and_eq_true, Bool.and_eq_true, decide_eq_true_eq, decide_eq_true_eq, decide_eq_true_eq] at hm
        rw [rx.int_inv, ry.int_inv]
        exact ⟨_, op_pow, i, j, rfl, rfl, ⟨hm.1.1, hm.1.2, by have e : (2 : Nat) ^ 64 = 18446744073709551616 := by decide
                                                              rw [e]; exact hm.2⟩, f α H _ .refl rh .int⟩
      · exact f.elim
    | _ => exact (show False from f).elim
  | _ => exact (show False from f).elim
theorem ud_neg : UnD X R (unaryOp .USub) gNeg := by
  intro x α h H vx W σ Q rh rx f
  cases x with
  | int i => rw [rx.int_inv]; exact ⟨_, un_neg, i, rfl, f α H _ .refl rh .int⟩
  | _ => exact (show False from f).elim
theorem od_lt (hK : R.K = X.K) (hu : X.A.units < cLine) : OpD X R (compareOp .Lt) gLt := by
  intro x y α h H vx vy W σ Q rh rx ry f
  cases x with
  | int i =>
    cases y with
    | int j => rw [rx.int_inv, ry.int_inv]; exact ⟨_, op_lt, i, j, rfl, rfl, f α H _ .refl rh .bl⟩
    | _ => exact (show False from f).elim
  | str i =>
    cases y with
    | str j => rw [rx.str_inv, ry.str_inv]; exact ⟨_, op_lt_str, i, j, rfl, rfl, f α H _ .refl rh .bl⟩
    | _ => exact (show False from f).elim
  | tup xs =>
    cases y with
    | tup ys =>
      unfold gLt at f
      dsimp only at f
      cases e1 : intsD xs with
      | none => rw [e1] at f; exact f.elim
      | some ns =>
        cases e2 : intsD ys with
        | none => rw [e1, e2] at f; exact f.elim
        | some ms =>
          rw [e1, e2] at f
          obtain ⟨a, vs, rfl, q1, r1⟩ := rx.tup_inv
          obtain ⟨b, ws, rfl, q2, r2⟩ := ry.tup_inv
          exact ⟨_, op_ltT hu, a, b, ns, ms, rfl, rfl, by rw [← intsD_rel e1 r1]; exact hK ▸ q1, by rw [← intsD_rel e2 r2]; exact hK ▸ q2, f α H _ .refl rh .bl⟩
    | _ => exact (show False from f).elim
  | _ => exact (show False from f).elim
theorem od_le : OpD X R (compareOp .LtE) gLe := by
  intro x y α h H vx vy W σ Q rh rx ry f
  cases x with
  | int i =>
    cases y with
    | int j => rw [rx.int_inv, ry.int_inv]; exact ⟨_, op_le, i, j, rfl, rfl, f α H _ .refl rh .bl⟩
    | _ => exact (show False from f).elim
  | _ => exact (show False from f).elim
theorem od_gt : OpD X R (compareOp .Gt) gGt := by
  intro x y α h H vx vy W σ Q rh rx ry f
  cases x with
  | int i =>
    cases y with
    | int j => rw [rx.int_inv, ry.int_inv]; exact ⟨_, op_gt, i, j, rfl, rfl, f α H _ .refl rh .bl⟩
    | _ => exact (show False from f).elim
  | _ => exact (show False from f).elim
theorem od_ge : OpD X R (compareOp .GtE) gGe := by
  intro x y α h H vx vy W σ Q rh rx ry f
  cases x with
  | int i =>
    cases y with
    | int j => rw [rx.int_inv, ry.int_inv]; exact ⟨_, op_ge, i, j, rfl, rfl, f α H _ .refl rh .bl⟩
    | _ => exact (show False from f).elim
  | _ => exact (show False from f).elim
theorem isNon_rel {α : List Addr} {H : Hp} {x : D} {v : V} {b : Bool} (e : isNon x = some b) (r : RelD R α H x v) : decide (v = V.non) = b := by
  cases x with
  | non => cases e; rw [r.non_inv]; rfl
  | bl k => cases e; rw [r.bl_inv]; rfl
  | int k => cases e; rw [r.int_inv]; rfl
  | str k => cases e; rw [r.str_inv]; exact decide_eq_false (by simp)
  | tup k => cases e; obtain ⟨a, vs, rfl, _⟩ := r.tup_inv; exact decide_eq_false (by simp)
  | ref k => cases e; obtain ⟨a, _, rfl⟩ := r.ref_inv; exact decide_eq_false (by simp)
  | gl k => cases e; obtain ⟨a, _, rfl⟩ := r.gl_inv; exact decide_eq_false (by simp)
  | ty k => cases e; rw [r.ty_inv]; exact decide_eq_false (by simp)
  | exc _ _ _ _ => cases e
  | lam _ => cases e
  | exv _ _ _ _ =>
    cases e
    unfold RelD at r
    obtain ⟨a, dd, t, C, v', rfl, _⟩ := r
    exact decide_eq_false (by simp)
theorem od_is : OpD X R (compareOp .Is) gIs := by
  intro x y α h H vx vy W σ Q rh rx ry f
  cases y with
  | non =>
    unfold gIs at f
    dsimp only at f
    cases e : isNon x with
    | none => rw [e] at f; exact f.elim
    | some b =>
      rw [e] at f
      rw [ry.non_inv]
      exact ⟨_, op_isN, rfl, by rw [isNon_rel e rx]; exact f α H _ .refl rh .bl⟩
  | bl k =>
    cases x with
    | bl b =>
      rw [rx.bl_inv, ry.bl_inv]
      refine ⟨_, op_is_bl, b, k, rfl, rfl, ?_⟩
      have : decide (b = k) = (b == k) := by cases b <;> cases k <;> rfl
      rw [this]
      exact f α H _ .refl rh .bl
    | _ => exact (show False from f).elim
  | _ => exact (show False from f).elim
theorem od_isnot : OpD X R (compareOp .IsNot) gIsNot := by
  intro x y α h H vx vy W σ Q rh rx ry f
  cases y with
  | non =>
    unfold gIsNot at f
    dsimp only at f
    cases e : isNon x with
    | none => rw [e] at f; exact f.elim
    | some b =>
      rw [e] at f
      rw [ry.non_inv]
      exact ⟨_, op_notN, rfl, by rw [isNon_rel e rx]; exact f α H _ .refl rh .bl⟩
  | bl k =>
    cases x with
    | bl b =>
      rw [rx.bl_inv, ry.bl_inv]
      refine ⟨_, op_isnot_bl, b, k, rfl, rfl, ?_⟩
      have : decide (b = k) = (b == k) := by cases b <;> cases k <;> rfl
      rw [this]
      exact f α H _ .refl rh .bl
    | _ => exact (show False from f).elim
  | _ => exact (show False from f).elim
theorem od_in (hK : R.K = X.K) (hu : X.A.units + 65 < cLine) : OpD X R (compareOp .In) (gIn false) := by
  intro x y α h H vx vy W σ Q rh rx ry f
  cases y with
  | ref k =>
    unfold gIn at f
    dsimp only at f
    cases e1 : toP maxP h x with
    | none => rw [e1] at f; exact f.elim
    | some d =>
      cases e2 : toP maxP h (.ref k) with
      | none => rw [e1, e2] at f; exact f.elim
      | some p =>
        rw [e1, e2] at f
        cases p with
        | list ds =>
          dsimp only at f
          split at f
          · rename_i hs
            rw [Bool.and_eq_true] at hs
            refine ⟨_, op_inD hu, d, ds, hK ▸ toP_dp rh e1 rx, hK ▸ toP_dp rh e2 ry, hs.1, hs.2, ?_⟩
            have := f α H _ .refl rh .bl
            rwa [Bool.false_xor] at this
          · exact f.elim
        | _ => exact (show False from f).elim
  | _ => exact (show False from f).elim
theorem od_notin (hK : R.K = X.K) (hu : X.A.units + 65 < cLine) : OpD X R (compareOp .NotIn) (gIn true) := by
  intro x y α h H vx vy W σ Q rh rx ry f
  cases y with
  | ref k =>
    unfold gIn at f
    dsimp only at f
    cases e1 : toP maxP h x with
    | none => rw [e1] at f; exact f.elim
    | some d =>
      cases e2 : toP maxP h (.ref k) with
      | none => rw [e1, e2] at f; exact f.elim
      | some p =>
        rw [e1, e2] at f
        cases p with
        | list ds =>
          dsimp only at f
          split at f
          · rename_i hs
            rw [Bool.and_eq_true] at hs
            refine ⟨_, op_notInD hu, d, ds, hK ▸ toP_dp rh e1 rx, hK ▸ toP_dp rh e2 ry, hs.1, hs.2, ?_⟩
            have := f α H _ .refl rh .bl
            rwa [Bool.true_xor] at this
          · exact f.elim
        | _ => exact (show False from f).elim
  | _ => exact (show False from f).elim
end
end Mi

set_option Elab.async false
set_option linter.all false
set_option maxRecDepth 100000
set_option maxHeartbeats 1000000
/-! ### tuple[::-1] -/
namespace HT2
open PySem PySem.Spec PyProof.Rows HT
section
variable {prog : Program} {w : World} {A : Around} {E : Value → Shared → Prop} {s : Shared}
theorem adjust_rev (n : Nat) : Builtin.Slice.sliceAdjust none none (-1) (n : Int) = ((n : Int) - 1, -1) := by
  unfold Builtin.Slice.sliceAdjust
  rfl
theorem places_rev (n : Nat) : Builtin.Slice.slicePlaces ((n : Int) - 1) (-1) (-1) = n := by
  unfold Builtin.Slice.slicePlaces
  rw [if_neg (by decide)]
  split
  · have : -(-1 : Int) = 1 := by decide
    rw [this, Int.ediv_one]
    omega
  · omega
theorem sliceApplied_rev {sl : Addr} {vl vu vs : Value} {n : Nat} {Q : Int × Int × Nat → Shared → Prop} (hs : s.heap.IsSliceOf sl vl vu vs) (pl : IsPart vl none) (pu : IsPart vu none) (ps : IsPart vs (some (-1)))
    (h : Q ((n : Int) - 1, -1, n) s) : wpAny (model prog w) A (Builtin.Slice.sliceApplied (.ref sl) (pure (n : Int))) Q E s := by
  obtain ⟨os, hos, hcs, hds⟩ := id hs
  unfold Builtin.Slice.sliceApplied Builtin.Slice.sliceFields
  refine wpAny_bind (wpAny_bind (wpAny_field hos hds (x := vl) rfl (wpAny_bind (wpAny_field hos hds (x := vu) rfl (wpAny_bind (wpAny_field hos hds (x := vs) rfl (wpAny_pure ?_)))))))
  refine wpAny_bind (slicePart_ ps ?_)
  show wpAny _ _ (if ((-1 : Int) == 0) = true then _ else _) _ _ s
  rw [if_neg (by decide)]
  refine wpAny_bind (slicePart_ pl (wpAny_bind (slicePart_ pu (wpAny_bind (wpAny_pure ?_)))))
  show wpAny _ _ (match Builtin.Slice.sliceAdjust none none (-1) (n : Int) with | (lo, hi) => pure (lo, (-1 : Int), Builtin.Slice.slicePlaces lo hi (-1))) _ _ s
  rw [adjust_rev]
  show wpAny _ _ (pure ((n : Int) - 1, (-1 : Int), Builtin.Slice.slicePlaces ((n : Int) - 1) (-1) (-1))) _ _ s
  rw [places_rev]
  exact wpAny_pure h
theorem fm_congr {A B : Type} {f g : A → Option B} : ∀ {l : List A}, (∀ m, m ∈ l → f m = g m) → l.filterMap f = l.filterMap g
  | [], _ => rfl
  | a :: l, h => by
    rw [List.filterMap_cons, List.filterMap_cons, h a (List.mem_cons_self ..), fm_congr fun m hm => h m (List.mem_cons_of_mem _ hm)]
theorem pick_rev_l (l : List Value) : ((List.range l.length).filterMap fun (m : Nat) => l[(((l.length : Int) - 1) + (m : Int) * (-1)).toNat]?) = l.reverse := by
  refine List.ext_getElem? fun i => ?_
  have e : ((List.range l.length).filterMap fun (m : Nat) => l[(((l.length : Int) - 1) + (m : Int) * (-1)).toNat]?) = (List.range l.length).map fun (m : Nat) => (l[(((l.length : Int) - 1) + (m : Int) * (-1)).toNat]?).getD .none := by
    rw [← List.filterMap_eq_map]
    refine fm_congr fun m hm => ?_
    rw [List.mem_range] at hm
    have : (((l.length : Int) - 1) + (m : Int) * (-1)).toNat < l.length := by omega
    show l[(((l.length : Int) - 1) + (m : Int) * (-1)).toNat]? = some ((l[(((l.length : Int) - 1) + (m : Int) * (-1)).toNat]?).getD .none)
    rw [List.getElem?_eq_getElem this]
    rfl
  rw [e, List.getElem?_map]
  by_cases hi : i < l.length
  · rw [List.getElem?_range hi, List.getElem?_reverse hi, Option.map_some]
    have h2 : (((l.length : Int) - 1) + (i : Int) * (-1)).toNat = l.length - 1 - i := by omega
    rw [h2]
    have h3 : l.length - 1 - i < l.length := by omega
    rw [List.getElem?_eq_getElem h3]
    rfl
  · rw [List.getElem?_eq_none (by simpa using hi), List.getElem?_eq_none (by simpa using hi)]
    rfl
theorem pick_rev (xs : Array Value) : ((List.range xs.size).filterMap fun (m : Nat) => xs[(((xs.size : Int) - 1) + (m : Int) * (-1)).toNat]?).toArray = xs.toList.reverse.toArray := by
  have := pick_rev_l xs.toList
  rw [Array.length_toList] at this
  rw [← this]
  congr 1
  refine fm_congr fun m _ => ?_
  rw [Array.getElem?_toList]
theorem getItem_tuple_rev {t sl : Addr} {items : Array Value} {vl vu vs : Value} {Q : Value → Shared → Prop} (ht : IsTup s.heap t items) (hs : s.heap.IsSliceOf sl vl vu vs) (pl : IsPart vl none) (pu : IsPart vu none) (ps : IsPart vs (some (-1)))
    (h : Q (.ref s.heap.objs.size) { s with heap := s.heap.push { cls := .type "tuple", data := .seq items.toList.reverse.toArray } })
    (hsz : items.size ≤ sizeLine) : wpAny (model prog w) A (getItem (.ref t) (.ref sl)) Q E s := by
  have htake : sizeOk (.seq items.toList.reverse.toArray) := by
    show items.toList.reverse.toArray.size ≤ sizeLine
    rw [List.size_toArray, List.length_reverse, Array.length_toList]
    exact hsz
  obtain ⟨os, hos, hcs, hds⟩ := id hs
  have hTs : s.TypeIs (.ref sl) "slice" := ⟨os, hos, hcs⟩
  unfold getItem
  try with_reducible refine wpAny_holding ?_
  first | refine wpAny_bind (wpAny_pure ?_) | skip
  refine wpAny_bind (wpAny_sequenceKey ht.typeIs (by decide) ?_)
  refine wpAny_bind (wpAny_callSpecial?_slot (name := Str.ofString "__getitem__") ht.typeIs PyProof.Rows.slot_tuple_getitem
    (wpAny_call_entry PyProof.Rows.slot_tuple_getitem ht.typeIs entry_tuple_getitem ?_ (args_tuple_getitem _ _)))
  show wpAny _ _ (Builtin.Tuple.tupleItemsOf (.ref t) >>= _) _ _ s
  refine wpAny_bind (tupleItemsOf_ ht ?_)
  refine wpAny_bind (wpAny_typeOf hTs ?_)
  rw [if_pos (by decide)]
  refine wpAny_bind (sliceApplied_rev hs pl pu ps ?_)
  have hno : ¬ ((((items.size : Int) - 1) == 0 && (-1 : Int) == 1 && items.size == items.size) = true) := by
    intro q
    rw [Bool.and_eq_true, Bool.and_eq_true] at q
    exact absurd q.1.2 (by decide)
  show wpAny _ _ (if (((items.size : Int) - 1) == 0 && (-1 : Int) == 1 && items.size == items.size) = true then _ else _) _ _ s
  rw [if_neg hno, pick_rev]
  first
    | exact wpAny_bind (m := Builtin.Tuple.tupleExact _) (wpAny_newObj_type (wpAny_pure ⟨_, rfl, wpAny_pure h⟩) htake)
    | exact wpAny_bind (m := Builtin.Tuple.tupleExact _) (wpAny_newObj_type (wpAny_bind (wpAny_pure (wpAny_pure ⟨_, rfl, wpAny_pure h⟩))) htake)
    | exact wpAny_bind (wpAny_bind (m := Builtin.Tuple.tupleExact _) (wpAny_newObj_type (wpAny_pure (wpAny_pure ⟨_, rfl, wpAny_pure h⟩)) htake))
    | exact wpAny_bind (wpAny_bind (m := Builtin.Tuple.tupleExact _) (wpAny_newObj_type (wpAny_pure ⟨_, rfl, wpAny_pure h⟩) htake))
end
end HT2
namespace Mi
open PySem PySem.Spec PyProof.Rows L2
/-! ### subscripts -/
@[simp] def keyD : D → Option Key
  | .int i => some (.inl i)
  | .str x => some (.inr x)
  | _ => none
theorem keyD_rel {R : Rx} {α : List Addr} {H : Hp} {x : D} {k : Key} {v : V} (e : keyD x = some k) (r : RelD R α H x v) : v = kV k := by
  cases x with
  | int i => cases e; rw [r.int_inv]; rfl
  | str i => cases e; rw [r.str_inv]; rfl
  | _ => cases e
def valD (kvs : List (Key × D)) (k : Key) : Option D := (kvs.find? fun kv => decide (kv.1 = k)).map (·.2)
def putD (kvs : List (Key × D)) (k : Key) (v : D) : List (Key × D) :=
  if (kvs.any fun kv => decide (kv.1 = k)) = true then kvs.map (fun kv => if kv.1 = k then (kv.1, v) else kv) else kvs ++ [(k, v)]
section
variable {R : Rx} {α : List Addr} {H : Hp}
theorem RelKs.nil_inv {vs : List (Key × V)} (h : RelKs R α H [] vs) : vs = [] := by unfold RelKs at h; exact h
theorem RelKs.nil : RelKs R α H [] [] := by unfold RelKs; rfl
theorem RelKs.cons_inv {k : Key} {d : D} {r : List (Key × D)} {vs : List (Key × V)} (h : RelKs R α H ((k, d) :: r) vs) : ∃ v t, vs = (k, v) :: t ∧ RelD R α H d v ∧ RelKs R α H r t := by unfold RelKs at h; exact h
theorem RelKs.cons {k : Key} {d : D} {v : V} {r : List (Key × D)} {t : List (Key × V)} (h : RelD R α H d v) (h2 : RelKs R α H r t) : RelKs R α H ((k, d) :: r) ((k, v) :: t) := by unfold RelKs; exact ⟨v, t, rfl, h, h2⟩
theorem RelKs.length : ∀ {kvs : List (Key × D)} {vs : List (Key × V)}, RelKs R α H kvs vs → kvs.length = vs.length
  | [], _, r => by rw [r.nil_inv]; rfl
  | (k, d) :: t, vs, r => by
    obtain ⟨v, t', rfl, _, r2⟩ := r.cons_inv
    rw [List.length_cons, List.length_cons, r2.length]
theorem RelKs.val : ∀ {kvs : List (Key × D)} {vs : List (Key × V)} {k : Key}, RelKs R α H kvs vs → (valD kvs k = none ∧ valV vs k = none) ∨ ∃ d v, valD kvs k = some d ∧ valV vs k = some v ∧ RelD R α H d v
  | [], vs, k, r => by rw [r.nil_inv]; exact .inl ⟨rfl, rfl⟩
  | (k', d) :: t, vs, k, r => by
    obtain ⟨v, t', rfl, r1, r2⟩ := r.cons_inv
    by_cases e : k' = k
    · refine .inr ⟨d, v, ?_, ?_, r1⟩
      · simp [valD, List.find?_cons, e]
      · simp [valV, List.find?_cons, e]
    · rcases r2.val (k := k) with ⟨a, b⟩ | ⟨d', v', a, b, c⟩
      · refine .inl ⟨?_, ?_⟩
        · rw [← a]; simp [valD, List.find?_cons, e]
        · rw [← b]; simp [valV, List.find?_cons, e]
      · refine .inr ⟨d', v', ?_, ?_, c⟩
        · rw [← a]; simp [valD, List.find?_cons, e]
        · rw [← b]; simp [valV, List.find?_cons, e]
theorem RelKs.any : ∀ {kvs : List (Key × D)} {vs : List (Key × V)} {k : Key}, RelKs R α H kvs vs → (kvs.any fun kv => decide (kv.1 = k)) = (vs.any fun kv => decide (kv.1 = k))
  | [], vs, k, r => by rw [r.nil_inv]; rfl
  | (k', d) :: t, vs, k, r => by
    obtain ⟨v, t', rfl, r1, r2⟩ := r.cons_inv
    rw [List.any_cons, List.any_cons, r2.any]
theorem RelKs.map : ∀ {kvs : List (Key × D)} {vs : List (Key × V)} {k : Key} {d : D} {v : V}, RelKs R α H kvs vs → RelD R α H d v → RelKs R α H (kvs.map (fun kv => if kv.1 = k then (kv.1, d) else kv)) (vs.map (fun kv => if kv.1 = k then (kv.1, v) else kv))
  | [], vs, k, d, v, r, _ => by rw [r.nil_inv]; exact .nil
  | (k', d') :: t, vs, k, d, v, r, h => by
    obtain ⟨v', t', rfl, r1, r2⟩ := r.cons_inv
    rw [List.map_cons, List.map_cons]
    by_cases e : k' = k
    · dsimp only
      rw [if_pos e, if_pos e]
      exact .cons h (r2.map h)
    · dsimp only
      rw [if_neg e, if_neg e]
      exact .cons r1 (r2.map h)
theorem RelKs.append : ∀ {kvs kws : List (Key × D)} {vs ws : List (Key × V)}, RelKs R α H kvs vs → RelKs R α H kws ws → RelKs R α H (kvs ++ kws) (vs ++ ws)
  | [], _, vs, _, r, h => by rw [r.nil_inv]; exact h
  | (k', d') :: t, _, vs, _, r, h => by
    obtain ⟨v', t', rfl, r1, r2⟩ := r.cons_inv
    exact .cons r1 (r2.append h)
theorem RelKs.put {kvs : List (Key × D)} {vs : List (Key × V)} {k : Key} {d : D} {v : V} (r : RelKs R α H kvs vs) (h : RelD R α H d v) : RelKs R α H (putD kvs k d) (putK vs k v) := by
  unfold putD putK
  rw [r.any (k := k)]
  split
  · exact r.map h
  · exact r.append (.cons h .nil)
theorem RelDs.at {xs : List D} {vs : List V} {i : Int} {d : D} (r : RelDs R α H xs vs) (e : atI xs i = some d) : ∃ v, atI vs i = some v ∧ RelD R α H d v := by
  unfold atI at e ⊢
  rw [← r.length]
  cases e1 : ixN xs.length i with
  | none => rw [e1] at e; cases e
  | some j =>
    rw [e1] at e
    exact r.get e
end
@[simp] def ixSeq (xs : List D) (y : D) (h : Hd) : Res D := match y with
  | .int i => (match atI xs i with
    | some d => .ok d h
    | none => .no)
  | _ => .no
@[simp] def gIx : D → D → Hd → Res D := fun x y h => match x with
  | .tup xs => ixSeq xs y h
  | .str z => (match y with
    | .int i => (match atI z.cps.toList i with
      | some c => if z.length ≤ 16777216 then .ok (.str ⟨#[c]⟩) h else .no
      | none => .no)
    | _ => .no)
  | .ref k => (match h[k]? with
    | some (.lst xs) => ixSeq xs y h
    | some (.fro xs) => ixSeq xs y h
    | some (.dic kvs) => (match keyD y with
      | some ky => (match valD kvs ky with
        | some d => .ok d h
        | none => .no)
      | none => .no)
    | none => .no)
  | _ => .no
section
variable {Tt : List (Addr × Str)} {X : Cx} {R : Rx} {W : WX} {pos : Pos} {a b : Expr} {fa fb : Fe}
def IxD (X : Cx) (R : Rx) (g : D → D → Hd → Res D) : Prop :=
  ∀ (x y : D) (α : List Addr) (h : Hd) (H : Hp) (vx vy : V) (W : WX) (σ : St) (Q : VK), RH R α h H → RelD R α H x vx → RelD R α H y vy → FinE R W α H σ (g x y h) Q → ∃ r, IxR X r ∧ r vx vy H Q
theorem ix_dic (hu : X.A.units + 1 < cLine) : IxR X (fun x y H Q => ∃ a v, x = .ref a ∧ DGet H a y (some v) ∧ Q v H) := by
  intro value slice pins s σ H x y v u Q I rx ry h hs
  obtain ⟨a, z, rfl, g, q⟩ := h
  obtain rfl : v = Value.ref a := rx
  exact tail_any (dict_typeIs I g) PySem.F.slot_dict_getitem.lookup (d_getItem hu I g ry fun w' s3 I3 rw' => ⟨z, H, I3, rw', q⟩) hs
theorem ixd (hK : R.K = X.K) (hu : X.A.units + 1 < cLine) : IxD X R gIx := by
  intro x y α h H vx vy W σ Q rh rx ry f
  cases x with
  | tup xs =>
    cases y with
    | int i =>
      unfold gIx ixSeq at f
      dsimp only at f
      cases e : atI xs i with
      | none => rw [e] at f; exact f.elim
      | some d =>
        rw [e] at f
        obtain ⟨a, vs, rfl, q1, r1⟩ := rx.tup_inv
        obtain ⟨v, ev, rv⟩ := r1.at e
        rw [ry.int_inv]
        exact ⟨_, ix_tup, a, vs, i, v, rfl, rfl, hK ▸ q1, ev, f α H v .refl rh rv⟩
    | _ => exact (show False from f).elim
  | str z =>
    cases y with
    | int i =>
      unfold gIx at f
      dsimp only at f
      cases e : atI z.cps.toList i with
      | none => rw [e] at f; exact f.elim
      | some d =>
        rw [e] at f
        dsimp only at f
        split at f
        · rename_i hl
          rw [rx.str_inv, ry.int_inv]
          exact ⟨_, ix_str, z, i, d, rfl, rfl, by rw [lineEq]; exact hl, e, f α H _ .refl rh .str⟩
        · exact f.elim
    | _ => exact (show False from f).elim
  | ref k =>
    obtain ⟨a, ea, rfl⟩ := rx.ref_inv
    have seq : ∀ xs, (h[k]? = some (.lst xs) ∨ h[k]? = some (.fro xs)) → FinE R W α H σ (ixSeq xs y h) Q → ∃ r, IxR X r ∧ r (.ref a) vy H Q := fun xs hx f => by
      obtain ⟨vs, q1, r1⟩ := lst_of rh ea hx
      cases y with
      | int i =>
        unfold ixSeq at f
        dsimp only at f
        cases e : atI xs i with
        | none => rw [e] at f; exact f.elim
        | some d =>
          rw [e] at f
          obtain ⟨v, ev, rv⟩ := r1.at e
          rw [ry.int_inv]
          exact ⟨_, ix_list, a, vs, i, v, rfl, rfl, hK ▸ q1, ev, f α H v .refl rh rv⟩
      | _ => exact (show False from f).elim
    unfold gIx at f
    dsimp only at f
    obtain ⟨o, eo, ro⟩ := rh.at ea
    rw [eo] at f
    cases o with
    | lst xs => exact seq xs (.inl eo) f
    | fro xs => exact seq xs (.inr eo) f
    | dic kvs =>
      obtain ⟨vs, q1, r1⟩ := ro
      dsimp only at f
      cases e : keyD y with
      | none => rw [e] at f; exact f.elim
      | some ky =>
        rw [e] at f
        dsimp only at f
        rcases r1.val (k := ky) with ⟨z1, z2⟩ | ⟨d, v, z1, z2, rv⟩
        · rw [z1] at f; exact f.elim
        · rw [z1] at f
          exact ⟨_, ix_dic hu, a, v, rfl, .inl ⟨vs, ky, .inl q1, keyD_rel e ry, z2.symm⟩, f α H v .refl rh rv⟩
  | _ => exact (show False from f).elim
theorem de_ix {g : D → D → Hd → Res D} (hg : IxD X R g) (ha : DE X R W a fa) (hb : DE X R W b fb) (hs : PlainIx b := by intro _ _; rfl) : DE X R W (.Subscript a b pos) (eOp g fa fb) := by
  have hu : IxR X (fun x y H Q => ∃ r, IxR X r ∧ r x y H Q) := fun value slice pins s σ H x y v u Q I rx ry ⟨r, h1, h2⟩ hs => h1 value slice pins s σ H x y v u Q I rx ry h2 hs
  refine ⟨fun pins s σ H Q I h => (pe_ix (pos := pos) hu ha hb hs).run pins s σ H Q I ?_⟩
  obtain ⟨α, env, hp, re, rh, fi⟩ := h
  refine ⟨α, env, hp, re, rh, (Fin.split fi).imp fun v H1 hq => ?_⟩
  obtain ⟨d, α1, h1, _, x1, rh1, r1, f1⟩ := hq
  refine ⟨α1, env, h1, re.ext x1, rh1, (Fin.split f1).imp fun v2 H2 hq => ?_⟩
  obtain ⟨d2, α2, h2, _, x2, rh2, r2, f2⟩ := hq
  exact hg _ _ _ _ _ _ _ _ _ _ rh2 (RelD.ext x2 _ _ r1) r2 f2
end
/-! ### slices -/
abbrev Fo := En → Hd → Res (Option Int)
@[simp] def oNone : Fo := fun _ h => .ok none h
@[simp] def oSome (f : Fe) : Fo := fun env h => (f env h).bind fun d h1 => match d with
  | .int i => .ok (some i) h1
  | _ => .no
def cutD {A : Type} (xs : List A) (lo hi : Option Int) : List A := (xs.drop (HT.sIx xs.length 0 lo)).take (HT.sIx xs.length xs.length hi - HT.sIx xs.length 0 lo)
@[simp] def gSl : D → Option Int → Option Int → Hd → Res D := fun x lo hi h => match x with
  | .tup xs => .ok (.tup (cutD xs lo hi)) h
  | .str z => if z.length ≤ 16777216 then .ok (.str (Txt.slice z lo hi)) h else .no
  | .ref k => (match h[k]? with
    | some (.lst xs) => .ok (.ref h.length) (h ++ [.lst (cutD xs lo hi)])
    | some (.fro xs) => .ok (.ref h.length) (h ++ [.lst (cutD xs lo hi)])
    | _ => .no)
  | _ => .no
@[simp] def eSl (fe : Fe) (fl fu : Fo) : Fe := fun env h => (fe env h).bind fun x h1 => (fl env h1).bind fun l h2 => (fu env h2).bind fun u h3 => gSl x l u h3
@[simp] def revD : D → Hd → Res D := fun x h => match x with
  | .tup xs => .ok (.tup xs.reverse) h
  | .ref k => (match h[k]? with
    | some (.lst xs) => .ok (.ref h.length) (h ++ [.lst xs.reverse])
    | some (.fro xs) => .ok (.ref h.length) (h ++ [.lst xs.reverse])
    | _ => .no)
  | _ => .no
@[simp] def eRev (fe : Fe) : Fe := eUn revD fe
section
variable {Tt : List (Addr × Str)} {X : Cx} {R : Rx} {W : WX} {pos p2 : Pos} {e l u : Expr} {fe ff : Fe} {fl fu : Fo}
def tO (R : Rx) (W : WX) (f : Fo) : TO := fun σ H Q => ∃ α env h, RelEnv R α H env σ ∧ RH R α h H ∧ Fin (fun _ _ (a b : Option Int) => a = b) R W α H σ (f env h) Q
abbrev DO (X : Cx) (R : Rx) (W : WX) (e : Option Expr) (f : Fo) : Prop := PO X e (tO R W f)
theorem do_none : DO X R W none oNone := by
  refine ⟨fun pins s σ H Q I h => po_none.run pins s σ H Q I ?_⟩
  obtain ⟨α, env, hp, re, rh, fi⟩ := h
  exact fi α H none .refl rh rfl
theorem do_some (h : DE X R W e fe) : DO X R W (some e) (oSome fe) := by
  refine ⟨fun pins s σ H Q I hh => (po_some h).run pins s σ H Q I ?_⟩
  obtain ⟨α, env, hp, re, rh, fi⟩ := hh
  refine ⟨α, env, hp, re, rh, (Fin.split fi).imp fun v H1 hq => ?_⟩
  obtain ⟨d, α1, h1, _, x1, rh1, r1, f1⟩ := hq
  cases d with
  | int i => exact ⟨i, r1.int_inv, f1 α1 H1 _ .refl rh1 rfl⟩
  | _ => exact (show False from f1).elim
theorem RelDs.cut {α : List Addr} {H : Hp} {xs : List D} {vs : List V} (r : RelDs R α H xs vs) (lo hi : Option Int) : RelDs R α H (cutD xs lo hi) (cutV vs lo hi) := by
  unfold cutD cutV
  rw [← r.length]
  exact (r.drop _).take _
theorem cut_whole {xs : List D} {lo hi : Option Int} (h : HT.sIx xs.length 0 lo = 0 ∧ HT.sIx xs.length xs.length hi = xs.length) : cutD xs lo hi = xs := by
  unfold cutD
  rw [h.1, h.2, Nat.sub_zero, List.drop_zero, List.take_length]
theorem de_sl (hK : R.K = X.K) (he : DE X R W e fe) {lo hi : Option Expr} (hl : DO X R W lo fl) (hu : DO X R W hi fu) : DE X R W (.Subscript e (.Slice lo hi none p2) pos) (eSl fe fl fu) := by
  have hU : SlR X (fun x lo hi H Q => ∃ r, SlR X r ∧ r x lo hi H Q) := fun pins s σ H x v vl vu lo hi sl Q I rx hs pl pu ⟨r, h1, h2⟩ => h1 pins s σ H x v vl vu lo hi sl Q I rx hs pl pu h2
  refine ⟨fun pins s σ H Q I h => (pe_slice (pos := pos) (p2 := p2) hU he hl hu).run pins s σ H Q I ?_⟩
  obtain ⟨α, env, hp, re, rh, fi⟩ := h
  refine ⟨α, env, hp, re, rh, (Fin.split fi).imp fun v H1 hq => ?_⟩
  obtain ⟨x, α1, h1, _, x1, rh1, r1, f1⟩ := hq
  refine ⟨α1, env, h1, re.ext x1, rh1, (Fin.split f1).imp fun lo H2 hq => ?_⟩
  obtain ⟨l, α2, h2, _, x2, rh2, (rfl : l = lo), f2⟩ := hq
  refine ⟨α2, env, h2, (re.ext x1).ext x2, rh2, (Fin.split f2).imp fun hi H3 hq => ?_⟩
  obtain ⟨u, α3, h3, _, x3, rh3, (rfl : u = hi), f3⟩ := hq
  have rx := RelD.ext (x2.trans x3) _ _ r1
  cases x with
  | tup xs =>
    obtain ⟨a, vs, rfl, q1, r2⟩ := rx.tup_inv
    refine ⟨_, sl_tupA, a, vs, rfl, hK ▸ q1, fun hw => ?_, fun hw p hp => ?_⟩
    · rw [← r2.length] at hw
      refine f3 α3 H3 _ .refl rh3 ?_
      rw [cut_whole hw]
      exact .tup q1 r2
    · obtain ⟨a1, b1, c1⟩ := new_tup rh3 (r2.cut l u) hp
      exact f3 _ _ _ a1 b1 c1
  | str z =>
    unfold gSl at f3
    dsimp only at f3
    split at f3
    · rename_i hz
      rw [rx.str_inv]
      exact ⟨_, C8.sl_txt, z, rfl, by rw [lineEq]; exact hz, f3 α3 H3 _ .refl rh3 .str⟩
    · exact f3.elim
  | ref k =>
    obtain ⟨a, ea, rfl⟩ := rx.ref_inv
    have seq : ∀ xs, (h3[k]? = some (.lst xs) ∨ h3[k]? = some (.fro xs)) → FinE R W α3 H3 σ (.ok (.ref h3.length) (h3 ++ [.lst (cutD xs l u)])) Q → ∃ r, SlR X r ∧ r (.ref a) l u H3 Q := fun xs hx f => by
      obtain ⟨vs, q1, r2⟩ := lst_of rh3 ea hx
      refine ⟨_, sl_list, a, vs, rfl, hK ▸ q1, fun p hp => ?_⟩
      obtain ⟨a1, b1, c1⟩ := new_lst rh3 (r2.cut l u) hp
      exact f _ _ _ a1 b1 c1
    unfold gSl at f3
    dsimp only at f3
    obtain ⟨o, eo, ro⟩ := rh3.at ea
    rw [eo] at f3
    cases o with
    | lst xs => exact seq xs (.inl eo) f3
    | fro xs => exact seq xs (.inr eo) f3
    | dic kvs => exact (show False from f3).elim
  | _ => exact (show False from f3).elim
/-- e[::-1] -/
def tRevA (K : PySem.W.Frag) (te : TE) : TE := fun σ H Q => te σ H fun x H1 => ∃ a xs, x = .ref a ∧ ((SqL K H1 a xs ∧ ∀ p, H1 p = none → Q (.ref p) (upd H1 p (.lst xs.reverse))) ∨ (SqT K H1 a xs ∧ ∀ p, H1 p = none → Q (.ref p) (upd H1 p (.tup xs.reverse))))
theorem pe_revA {te : TE} {k : Nat} {p1 p2 p3 pos : Pos} (he : PE X e te) : PE X (.Subscript e (.Slice none none (some (.UnaryOp .USub (.Constant (.int 1) k p1) p2)) p3) pos) (tRevA X.K te) := by
  refine ⟨fun pins s σ H Q I h => ?_⟩
  refine Subscript_ (thn (he.run pins s σ H _ I h) fun v s1 ⟨x, H1, I1, r1, q1⟩ => ?_)
  obtain ⟨a, xs, ex, q⟩ := q1
  subst ex
  cases r1
  have hst : PO X (some (.UnaryOp .USub (.Constant (.int 1) k p1) p2)) (tPart (tUn (rU fun i => .int (-i)) (tC (.int 1)))) := po_some (pe_un un_neg pe_int)
  refine wpAny_Slice (thn (po_none.run pins s1 σ H1 (fun o H2 => o = none ∧ H2 = H1) I1 ⟨rfl, rfl⟩) fun vl s2 ⟨l, H2, I2, pl, el, e2⟩ => ?_)
  subst el e2
  refine thn (po_none.run pins s2 σ H2 (fun o H3 => o = none ∧ H3 = H2) I2 ⟨rfl, rfl⟩) fun vu s3 ⟨u, H3, I3, pu, eu, e3⟩ => ?_
  subst eu e3
  refine thn (hst.run pins s3 σ H3 (fun o H4 => o = some (-1) ∧ H4 = H3) I3 ⟨1, rfl, -1, rfl, rfl, rfl⟩) fun vs s4 ⟨o, H4, I4, ps, eo, e4⟩ => ?_
  subst eo e4
  have I5 : Inv X pins σ H4 { s4 with heap := s4.heap.push { cls := .type "slice", data := .fields #[vl, vu, vs] } } := I4.kept (t' := s4.toks) fun b ob q => Heap.get?_push_of_some _ q
  show wpAny (model X.prog X.w) X.A (subscriptTail e (.Slice none none (some (.UnaryOp .USub (.Constant (.int 1) k p1) p2)) p3) (.ref a) (.ref s4.heap.objs.size)) (EP X pins σ Q) X.xe { s4 with heap := s4.heap.push { cls := .type "slice", data := .fields #[vl, vu, vs] } }
  rcases q with ⟨hx, q⟩ | ⟨hx, q⟩
  · obtain ⟨its, r, ht, hz⟩ := I5.list hx
    have hlen := r.length
    refine tail_any (ops := [.ref a, .ref s4.heap.objs.size]) ht.isList.typeIs (PySem.slot_list_getitem.lookup) ?_ (by with_unfolding_all rfl)
    refine wpAny_getItem_list_slice ht.isList (Heap.IsSliceOf.new _ vl vu vs) pl pu ps (by decide) ?_ (by rw [List.size_toArray]; omega)
    rw [PySem.W.krv_pick]
    refine ⟨.ref _, _, I5.laid (t' := s4.toks) (o := .lst xs.reverse) (fun b ob q => Heap.get?_push_of_some _ q) (Nat.le_refl _) ?_, rfl, q _ (I5.hok.fresh (Nat.le_refl _))⟩
    exact ⟨by rw [List.length_reverse]; exact hz, _, 0, r.reverse, Heap.get?_push_size _ rfl⟩
  · obtain ⟨its, r, ht, hz⟩ := I5.tuple hx
    have hlen := r.length
    refine tail_any (ops := [.ref a, .ref s4.heap.objs.size]) ht.typeIs (PyProof.Rows.slot_tuple_getitem.lookup) ?_ (by with_unfolding_all rfl)
    refine HT2.getItem_tuple_rev ht (Heap.IsSliceOf.new _ vl vu vs) pl pu ps ?_ (by rw [List.size_toArray]; omega)
    refine ⟨.ref _, _, I5.laid (t' := s4.toks) (o := .tup xs.reverse) (fun b ob q => Heap.get?_push_of_some _ q) (Nat.le_refl _) ?_, rfl, q _ (I5.hok.fresh (Nat.le_refl _))⟩
    exact ⟨by rw [List.length_reverse]; exact hz, _, r.reverse, IsTup.new _ _⟩
theorem de_rev (hK : R.K = X.K) {k : Nat} {p1 p2 p3 pos : Pos} (he : DE X R W e fe) : DE X R W (.Subscript e (.Slice none none (some (.UnaryOp .USub (.Constant (.int 1) k p1) p2)) p3) pos) (eRev fe) := by
  refine ⟨fun pins s σ H Q I h => (pe_revA he).run pins s σ H Q I ?_⟩
  obtain ⟨α, env, hp, re, rh, fi⟩ := h
  refine ⟨α, env, hp, re, rh, (Fin.split fi).imp fun v H1 hq => ?_⟩
  obtain ⟨x, α1, h1, _, x1, rh1, r1, f1⟩ := hq
  cases x with
  | tup xs =>
    obtain ⟨a, vs, rfl, q1, r2⟩ := r1.tup_inv
    refine ⟨a, vs, rfl, .inr ⟨hK ▸ q1, fun p hp => ?_⟩⟩
    obtain ⟨a1, b1, c1⟩ := new_tup rh1 r2.reverse hp
    exact f1 _ _ _ a1 b1 c1
  | ref k =>
    obtain ⟨a, ea, rfl⟩ := r1.ref_inv
    have seq : ∀ xs, (h1[k]? = some (.lst xs) ∨ h1[k]? = some (.fro xs)) → FinE R W α1 H1 σ (.ok (.ref h1.length) (h1 ++ [.lst xs.reverse])) Q → ∃ a' xs, V.ref a = .ref a' ∧ ((SqL X.K H1 a' xs ∧ ∀ p, H1 p = none → Q (.ref p) (upd H1 p (.lst xs.reverse))) ∨ (SqT X.K H1 a' xs ∧ ∀ p, H1 p = none → Q (.ref p) (upd H1 p (.tup xs.reverse)))) := fun xs hx f => by
      obtain ⟨vs, q1, r2⟩ := lst_of rh1 ea hx
      refine ⟨a, vs, rfl, .inl ⟨hK ▸ q1, fun p hp => ?_⟩⟩
      obtain ⟨a1, b1, c1⟩ := new_lst rh1 r2.reverse hp
      exact f _ _ _ a1 b1 c1
    unfold revD at f1
    dsimp only at f1
    obtain ⟨o, eo, ro⟩ := rh1.at ea
    rw [eo] at f1
    cases o with
    | lst xs => exact seq xs (.inl eo) f1
    | fro xs => exact seq xs (.inr eo) f1
    | dic kvs => exact (show False from f1).elim
  | _ => exact (show False from f1).elim
end
end Mi

set_option Elab.async false
set_option linter.all false
set_option maxRecDepth 100000
set_option maxHeartbeats 1000000
/-! ### min, max, sum, all, any of a tuple -/
namespace TupW
open PySem PySem.Spec PyProof.Rows
section
variable {prog : Program} {w : World} {A : Around} {E : Value → Shared → Prop} {s : Shared} {l : Addr} {xs : Array (Int × Tok)} {its : List Value} {ns : List Int}
theorem iter_tup {items : Array Value} {Q : Value → Shared → Prop} (hl : s.heap.IsTuple l items)
    (h : ∀ s₂ : Shared, s₂ = { s with heap := s.heap.push { cls := .type "tuple_iterator", data := .fields #[.ref l, .int 0 0] } } →
      (s₂.heap.IsTupleIter s.heap.objs.size l 0 ∧ s₂.heap.IsTuple l items) → (∀ b ∈ [s.heap.objs.size, l], b < s₂.heap.objs.size) → l ≠ s.heap.objs.size → Q (.ref s.heap.objs.size) s₂) :
    wpAny (model prog w) A (pyIter (.ref l)) Q E s := by
  have hlt : l < s.heap.objs.size := by obtain ⟨_, e, _⟩ := hl; exact Heap.lt_size e
  refine wpAny_pyIter_tuple hl (h _ rfl ⟨⟨_, Heap.get?_push_size _ rfl, rfl, rfl⟩, hl.push _⟩ (fun b hb => ?_) (Nat.ne_of_lt hlt))
  show b < (s.heap.push _).objs.size
  rw [Heap.size_push]
  rcases List.mem_cons.mp hb with rfl | hb
  · exact Nat.lt_succ_self _
  · rcases List.mem_cons.mp hb with rfl | hb
    · exact Nat.lt_succ_of_lt hlt
    · cases hb
theorem old_keptT {ob : Obj} {h' : Heap} (hk : ∀ b o, b ∉ [s.heap.objs.size] → (s.heap.push ob).get? b = some o → h'.get? b = some o) :
    ∀ b o, s.heap.get? b = some o → h'.get? b = some o := fun b o e => by
  refine hk b o (fun hm => ?_) (Heap.get?_push_of_some _ e)
  rcases List.mem_cons.mp hm with e1 | hm
  · exact absurd (e1 ▸ Heap.lt_size e) (Nat.lt_irrefl _)
  · cases hm
theorem max_tup {Q : Value → Shared → Prop} (hh : A.handled = none) (hl : s.heap.IsTuple l its.toArray) (hi : IntsAre its ns) (hne : 0 < ns.length)
    (h : ∀ h' tk M t', (∀ b o, s.heap.get? b = some o → h'.get? b = some o) → M ∈ ns → (∀ a, a ∈ ns → a ≤ M) → Q (.int M t') { s with heap := h', toks := tk }) : wpAny (model prog w) A (call (.builtin "max") [.ref l]) Q E s := by
  obtain ⟨xs, e⟩ := hi.allInts.items
  have hn : numsOf (intItems xs).toList = ns := by rw [← e]; exact hi.numsOf
  rw [nums_intItems] at hn
  subst hn
  rw [e] at hl
  have hsz : 0 < xs.size := by simpa using hne
  refine call_max_walk (iter_tup hl fun s₂ e st hfp hlI => ?_)
  subst e
  refine ⟨_, _, _, _, _, _, _, rfl, Walks.tuple (A := A.in1) hh _ l hlI (intItems xs), st, hfp, by simpa [intItems] using hsz, CmpOf.ints_gt (numAt xs) (fun _ _ => intItems_at), fun v h' tk hP hk => ?_⟩
  obtain ⟨t, rfl⟩ := intItems_at (xs := xs) (by simpa [intItems] using hP)
  obtain ⟨h1, h2⟩ := argBest_gt (numAt xs) (xs.size - 1)
  simp only [gt_iff_lt] at h1 h2
  refine h h' tk _ t (old_keptT hk) ?_ fun a ha => ?_
  · rw [numAt_eq]; exact PySem.getD_mem (by rw [List.length_map, Array.length_toList]; omega)
  · obtain ⟨j, hj, rfl⟩ := mem_getD ha
    rw [List.length_map, Array.length_toList] at hj
    rw [← numAt_eq]; exact h2 j (by omega)
theorem min_tup {Q : Value → Shared → Prop} (hh : A.handled = none) (hl : s.heap.IsTuple l its.toArray) (hi : IntsAre its ns) (hne : 0 < ns.length)
    (h : ∀ h' tk M t', (∀ b o, s.heap.get? b = some o → h'.get? b = some o) → M ∈ ns → (∀ a, a ∈ ns → M ≤ a) → Q (.int M t') { s with heap := h', toks := tk }) : wpAny (model prog w) A (call (.builtin "min") [.ref l]) Q E s := by
  obtain ⟨xs, e⟩ := hi.allInts.items
  have hn : numsOf (intItems xs).toList = ns := by rw [← e]; exact hi.numsOf
  rw [nums_intItems] at hn
  subst hn
  rw [e] at hl
  have hsz : 0 < xs.size := by simpa using hne
  refine call_min_walk (iter_tup hl fun s₂ e st hfp hlI => ?_)
  subst e
  refine ⟨_, _, _, _, _, _, _, rfl, Walks.tuple (A := A.in1) hh _ l hlI (intItems xs), st, hfp, by simpa [intItems] using hsz, CmpOf.ints_lt (numAt xs) (fun _ _ => intItems_at), fun v h' tk hP hk => ?_⟩
  obtain ⟨t, rfl⟩ := intItems_at (xs := xs) (by simpa [intItems] using hP)
  obtain ⟨h1, h2⟩ := argBest_lt (numAt xs) (xs.size - 1)
  refine h h' tk _ t (old_keptT hk) ?_ fun a ha => ?_
  · rw [numAt_eq]; exact PySem.getD_mem (by rw [List.length_map, Array.length_toList]; omega)
  · obtain ⟨j, hj, rfl⟩ := mem_getD ha
    rw [List.length_map, Array.length_toList] at hj
    rw [← numAt_eq]; exact h2 j (by omega)
theorem sum_tup {Q : Value → Shared → Prop} (hh : A.handled = none) (hl : s.heap.IsTuple l its.toArray) (hi : IntsAre its ns)
    (h : ∀ h' tk t', (∀ b o, s.heap.get? b = some o → h'.get? b = some o) → Q (.int ns.sum t') { s with heap := h', toks := tk }) : wpAny (model prog w) A (call (.builtin "sum") [.ref l]) Q E s := by
  obtain ⟨xs, e⟩ := hi.allInts.items
  have hn : numsOf (intItems xs).toList = ns := by rw [← e]; exact hi.numsOf
  rw [nums_intItems] at hn
  rw [e] at hl
  refine call_sum_walkG (iter_tup hl fun s₂ e st hfp hlI => ?_)
  subst e
  refine ⟨_, _, _, _, _, _, numAt xs, rfl, Walks.tuple (A := A.in1) hh _ l hlI (intItems xs), st, hfp, (fun _ _ => intItems_at), fun h' tk t' hk => ?_⟩
  have := h h' tk t' (old_keptT hk)
  have hz : (intItems xs).size = xs.size := by simp [intItems]
  rw [hz, preSum_eq, List.take_of_length_le (by simp), hn]
  exact this
end
end TupW
namespace Mi
open PySem PySem.Spec PyProof.Rows L2
/-! ### the parts of a walkable -/
@[simp] def seqD : D → Hd → Option (List D)
  | .tup xs, _ => some xs
  | .ref k, h => (match h[k]? with
    | some (.lst xs) => some xs
    | some (.fro xs) => some xs
    | _ => none)
  | _, _ => none
theorem seq_of {R : Rx} {α : List Addr} {H : Hp} {h : Hd} {x : D} {v : V} {xs : List D} (rh : RH R α h H) (r : RelD R α H x v) (e : seqD x h = some xs) : ∃ a vs, v = .ref a ∧ (SqL R.K H a vs ∨ SqT R.K H a vs) ∧ RelDs R α H xs vs := by
  cases x with
  | tup ys => cases e; obtain ⟨a, vs, rfl, q, r⟩ := r.tup_inv; exact ⟨a, vs, rfl, .inr q, r⟩
  | ref k =>
    obtain ⟨a, ea, rfl⟩ := r.ref_inv
    unfold seqD at e
    dsimp only at e
    obtain ⟨o, eo, ro⟩ := rh.at ea
    rw [eo] at e
    cases o with
    | lst ys => cases e; obtain ⟨vs, q, r⟩ := lst_of rh ea (.inl eo); exact ⟨a, vs, rfl, .inl q, r⟩
    | fro ys => cases e; obtain ⟨vs, q, r⟩ := lst_of rh ea (.inr eo); exact ⟨a, vs, rfl, .inl q, r⟩
    | dic ys => cases e
  | _ => cases e
@[simp] def boolsD : List D → Option (List Bool)
  | [] => some []
  | .bl i :: r => (match boolsD r with
    | some l => some (i :: l)
    | none => none)
  | _ => none
theorem boolsD_rel {R : Rx} {α : List Addr} {H : Hp} : ∀ {ds : List D} {ns : List Bool} {vs : List V}, boolsD ds = some ns → RelDs R α H ds vs → vs = ns.map V.bl
  | [], ns, vs, e, r => by unfold boolsD at e; cases e; rw [r.nil_inv]; rfl
  | d :: ds, ns, vs, e, r => by
    obtain ⟨v, r', rfl, h1, h2⟩ := r.cons_inv
    cases d with
    | bl i =>
      unfold boolsD at e
      cases e2 : boolsD ds with
      | none => rw [e2] at e; cases e
      | some l =>
        rw [e2] at e
        cases e
        rw [boolsD_rel e2 h2, h1.bl_inv]
        rfl
    | _ => unfold boolsD at e; cases e
/-! ### calls of built-ins -/
abbrev Gc := List D → Hd → Res D
def CallD (X : Cx) (R : Rx) (f : Value) (g : Gc) : Prop :=
  ∀ (ds : List D) (α : List Addr) (h : Hd) (H : Hp) (vs : List V) (W : WX) (σ : St) (Q : VK), RH R α h H → RelDs R α H ds vs → FinE R W α H σ (g ds h) Q → ∃ r, CallR X f r ∧ r vs H Q
section
variable {X : Cx} {R : Rx} {W : WX} {x : Str} {p pos : Pos} {e : Expr} {es : List Expr} {fa : Fa} {bid T : String} {g : Gc}
theorem de_callB (hc : CallD X R (.builtin bid) g) (hg : Gl X x) (hm : X.mg x = none) (hv : bootBuiltins x = some (.builtin bid)) (ha : DA X R W (e :: es) fa) (hn : x ≠ "__name__" := by decide) (hdb : (x == ("__debug__" : Str)) = false := by decide)
    (he : starEach (e :: es) X.env = (false, eval e X.env) :: starEach es X.env := by rfl) (hpl : (backTo pos (starEach es X.env)).any (·.1) = false := by rfl) : DE X R W (.Call (.Name x p) (e :: es) [] pos) (eCall g fa) := by
  have hU : CallR X (.builtin bid) (fun vs H Q => ∃ r, CallR X (.builtin bid) r ∧ r vs H Q) := fun pins s σ H xs us Q I rs ⟨r, h1, h2⟩ => h1 pins s σ H xs us Q I rs h2
  refine ⟨fun pins s σ H Q I h => (pe_callB (p := p) (pos := pos) hU hg hm hv ha hn hdb he hpl).run pins s σ H Q I ?_⟩
  obtain ⟨α, env, hp, re, rh, fi⟩ := h
  refine ⟨α, env, hp, re, rh, (Fin.split (g := g) fi).imp fun v H1 hq => ?_⟩
  obtain ⟨d, α1, h1, _, x1, rh1, r1, f1⟩ := hq
  exact hc _ _ _ _ _ _ _ _ rh1 r1 f1
theorem de_callT (hc : CallD X R (.type T) g) (hg : Gl X x) (hm : X.mg x = none) (hv : bootBuiltins x = some (.type T)) (ha : DA X R W (e :: es) fa) (hn : x ≠ "__name__" := by decide) (hdb : (x == ("__debug__" : Str)) = false := by decide)
    (he : starEach (e :: es) X.env = (false, eval e X.env) :: starEach es X.env := by rfl) (hpl : (backTo pos (starEach es X.env)).any (·.1) = false := by rfl) : DE X R W (.Call (.Name x p) (e :: es) [] pos) (eCall g fa) := by
  have hU : CallR X (.type T) (fun vs H Q => ∃ r, CallR X (.type T) r ∧ r vs H Q) := fun pins s σ H xs us Q I rs ⟨r, h1, h2⟩ => h1 pins s σ H xs us Q I rs h2
  refine ⟨fun pins s σ H Q I h => (pe_callTy (p := p) (pos := pos) hU hg hm hv ha hn hdb he hpl).run pins s σ H Q I ?_⟩
  obtain ⟨α, env, hp, re, rh, fi⟩ := h
  refine ⟨α, env, hp, re, rh, (Fin.split (g := g) fi).imp fun v H1 hq => ?_⟩
  obtain ⟨d, α1, h1, _, x1, rh1, r1, f1⟩ := hq
  exact hc _ _ _ _ _ _ _ _ rh1 r1 f1
@[simp] def gLen : Gc := fun ds h => match ds with
  | [.str z] => if z.length ≤ 16777216 then .ok (.int (z.length : Nat)) h else .no
  | [x] => (match seqD x h with
    | some xs => .ok (.int (xs.length : Nat)) h
    | none => .no)
  | _ => .no
@[simp] def gList : Gc := fun ds h => match ds with
  | [x] => (match seqD x h with
    | some xs => .ok (.ref h.length) (h ++ [.lst xs])
    | none => .no)
  | _ => .no
@[simp] def gTuple : Gc := fun ds h => match ds with
  | [x] => (match seqD x h with
    | some xs => .ok (.tup xs) h
    | none => .no)
  | _ => .no
def minL : List Int → Int
  | [] => 0
  | [n] => n
  | n :: r => if n ≤ minL r then n else minL r
def maxL : List Int → Int
  | [] => 0
  | [n] => n
  | n :: r => if maxL r ≤ n then n else maxL r
def gMinMax (one : List Int → Int) (two : Int → Int → Int) : Gc := fun ds h => match ds with
  | [.int i, .int j] => .ok (.int (two i j)) h
  | [x] => (match seqD x h with
    | some xs => (match intsD xs with
      | some (n :: r) => .ok (.int (one (n :: r))) h
      | _ => .no)
    | none => .no)
  | _ => .no
def gMin : Gc := gMinMax minL fun i j => if j < i then j else i
def gMax : Gc := gMinMax maxL fun i j => if j > i then j else i
def gSum : Gc := fun ds h => match ds with
  | [x] => (match seqD x h with
    | some xs => (match intsD xs with
      | some ns => .ok (.int ns.sum) h
      | none => .no)
    | none => .no)
  | _ => .no
def gAbs : Gc := fun ds h => match ds with
  | [.int i] => .ok (.int (if i < 0 then -i else i)) h
  | _ => .no
@[simp] def lstD : D → Hd → Option (List D)
  | .ref k, h => (match h[k]? with
    | some (.lst xs) => some xs
    | some (.fro xs) => some xs
    | _ => none)
  | _, _ => none
theorem lstD_of {α : List Addr} {H : Hp} {h : Hd} {x : D} {v : V} {xs : List D} (rh : RH R α h H) (r : RelD R α H x v) (e : lstD x h = some xs) : ∃ a vs, v = .ref a ∧ SqL R.K H a vs ∧ RelDs R α H xs vs := by
  cases x with
  | ref k =>
    obtain ⟨a, ea, rfl⟩ := r.ref_inv
    unfold lstD at e
    dsimp only at e
    obtain ⟨o, eo, ro⟩ := rh.at ea
    rw [eo] at e
    cases o with
    | lst ys => cases e; obtain ⟨vs, q, r⟩ := lst_of rh ea (.inl eo); exact ⟨a, vs, rfl, q, r⟩
    | fro ys => cases e; obtain ⟨vs, q, r⟩ := lst_of rh ea (.inr eo); exact ⟨a, vs, rfl, q, r⟩
    | dic ys => cases e
  | _ => cases e
def gAll : Gc := fun ds h => match ds with
  | [x] => (match lstD x h with
    | some xs => (match boolsD xs with
      | some bs => .ok (.bl (bs.all id)) h
      | none => .no)
    | none => .no)
  | _ => .no
def gAny : Gc := fun ds h => match ds with
  | [x] => (match lstD x h with
    | some xs => (match boolsD xs with
      | some bs => .ok (.bl (bs.any id)) h
      | none => .no)
    | none => .no)
  | _ => .no
def insI (n : Int) : List Int → List Int
  | [] => [n]
  | m :: r => if n ≤ m then n :: m :: r else m :: insI n r
def sortI : List Int → List Int
  | [] => []
  | n :: r => insI n (sortI r)
def gSorted : Gc := fun ds h => match ds with
  | [x] => (match lstD x h with
    | some xs => (match intsD xs with
      | some ns => .ok (.ref h.length) (h ++ [.lst ((sortI ns).map .int)])
      | none => .no)
    | none => .no)
  | _ => .no
def gInt : Gc := fun ds h => match ds with
  | [.int i] => .ok (.int i) h
  | [.bl k] => .ok (.int (if k = true then 1 else 0)) h
  | _ => .no
def repOk (d : PyData) : Bool := d.showable && !d.hasDict && decide (d.depth ≤ 60) && decide (d.shown.length ≤ 16777216)
def gRepr : Gc := fun ds h => match ds with
  | [x] => (match toP maxP h x with
    | some d => if repOk d = true then .ok (.str d.shown) h else .no
    | none => .no)
  | _ => .no
@[simp] def tyName : D → Hd → Option String
  | .non, _ => some "NoneType"
  | .bl _, _ => some "bool"
  | .int _, _ => some "int"
  | .str _, _ => some "str"
  | .tup _, _ => some "tuple"
  | .ref k, h => (match h[k]? with
    | some (.lst _) => some "list"
    | some (.fro _) => some "list"
    | some (.dic _) => some "dict"
    | none => none)
  | _, _ => none
def tys : List String := ["NoneType", "bool", "int", "str", "list", "tuple", "dict"]
def tqs : List String := ["bool", "int", "str", "list", "tuple", "dict"]
theorem kit_tab (K : PySem.W.Frag) : ∀ a ∈ tys, ∀ b ∈ tqs, PySem.W.kitOne K (.type a) (.type b) = some (a == b || (a == "bool" && b == "int")) := by
  intro a ha b hb
  simp only [tys, tqs, List.mem_cons, List.mem_nil_iff, or_false] at ha hb
  rcases ha with rfl | rfl | rfl | rfl | rfl | rfl | rfl <;> rcases hb with rfl | rfl | rfl | rfl | rfl | rfl <;> first | rfl | decide +kernel | kernel_rfl
theorem ty_of {K : PySem.W.Frag} {α : List Addr} {H : Hp} {h : Hd} {x : D} {v : V} {t : String} (hK : R.K = K) (rh : RH R α h H) (r : RelD R α H x v) (e : tyName x h = some t) : t ∈ tys ∧ TyX K H v (.type t) := by
  cases x with
  | non => cases e; rw [r.non_inv]; exact ⟨by decide, .base .non⟩
  | bl b => cases e; rw [r.bl_inv]; exact ⟨by decide, .base (.bl _)⟩
  | int b => cases e; rw [r.int_inv]; exact ⟨by decide, .base (.int _)⟩
  | str b => cases e; rw [r.str_inv]; exact ⟨by decide, .base (.str _)⟩
  | tup xs =>
    cases e
    obtain ⟨a, vs, rfl, q, r⟩ := r.tup_inv
    refine ⟨by decide, ?_⟩
    rcases q with (q | ⟨o, q⟩) | ⟨o, its, n, k1, k2, k3, k4, k5⟩
    · exact .base (.tup q)
    · exact .fTuple q
    · exact .kTuple (hK ▸ k1) k2
  | ref k =>
    obtain ⟨a, ea, rfl⟩ := r.ref_inv
    unfold tyName at e
    dsimp only at e
    obtain ⟨o, eo, ro⟩ := rh.at ea
    rw [eo] at e
    cases o with
    | lst ys => cases e; obtain ⟨vs, q, _⟩ := ro; exact ⟨by decide, .base (.lst q)⟩
    | fro ys => cases e; obtain ⟨vs, ob, q, _⟩ := ro; exact ⟨by decide, .base (.frz q)⟩
    | dic ys => cases e; obtain ⟨vs, q, _⟩ := ro; exact ⟨by decide, .base (.dK q)⟩
  | _ => cases e
@[simp] def gIsi : Gc := fun ds h => match ds with
  | [x, .ty T] => (match tyName x h with
    | some t => if tqs.contains T = true then .ok (.bl (t == T || (t == "bool" && T == "int"))) h else .no
    | none => .no)
  | _ => .no

theorem cd_len (hK : R.K = X.K) : CallD X R (.builtin "len") gLen := by
  intro ds α h H vs W σ Q rh rd f
  have go : ∀ x, ds = [x] → FinE R W α H σ (match seqD x h with
    | some xs => .ok (.int (xs.length : Nat)) h
    | none => .no) Q → ∃ r, CallR X (.builtin "len") r ∧ r vs H Q := fun x e f2 => by
    clear f
    subst e
    obtain ⟨v, rfl, r⟩ := rd.one
    cases e : seqD x h with
    | none => rw [e] at f2; exact f2.elim
    | some xs =>
      rw [e] at f2
      obtain ⟨a, ws, rfl, q, r2⟩ := seq_of rh r e
      rw [hK] at q
      exact ⟨_, call_len_seq, a, ws, rfl, q, by rw [← r2.length]; exact f2 α H _ .refl rh .int⟩
  cases ds with
  | nil => exact (show False from f).elim
  | cons x t =>
    cases t with
    | cons _ _ => cases x <;> exact (show False from f).elim
    | nil =>
      cases x with
      | str z =>
        unfold gLen at f
        dsimp only at f
        split at f
        · rename_i hz
          obtain ⟨v, rfl, r⟩ := rd.one
          rw [r.str_inv]
          exact ⟨_, call_len_str, z, rfl, by rw [lineEq]; exact hz, f α H _ .refl rh .int⟩
        · exact f.elim
      | _ => exact go _ rfl f
theorem one_of {g : Gc} {f : Value} (g1 : ∀ (x : D) (α : List Addr) (h : Hd) (H : Hp) (v : V) (W : WX) (σ : St) (Q : VK), RH R α h H → RelD R α H x v → FinE R W α H σ (g [x] h) Q → ∃ r, CallR X f r ∧ r [v] H Q)
    (g0 : ∀ ds h, ds.length ≠ 1 → g ds h = .no) : CallD X R f g := by
  intro ds α h H vs W σ Q rh rd fi
  by_cases hl : ds.length = 1
  · obtain ⟨x, rfl⟩ := List.length_eq_one_iff.mp hl
    obtain ⟨v, rfl, r⟩ := rd.one
    exact g1 x α h H v W σ Q rh r fi
  · rw [g0 ds h hl] at fi
    exact fi.elim
theorem not_one {g : Gc} (e : ∀ h, g [] h = .no) (e2 : ∀ a b c h, g (a :: b :: c) h = .no) : ∀ ds h, ds.length ≠ 1 → g ds h = .no := fun ds h hl => by
  match ds, hl with
  | [], _ => exact e h
  | [_], hl => exact absurd rfl hl
  | a :: b :: c, _ => exact e2 a b c h
theorem cd_list (hK : R.K = X.K) : CallD X R (.type "list") gList := by
  refine one_of (fun x α h H v W σ Q rh r f => ?_) (not_one (fun _ => rfl) fun _ _ _ _ => rfl)
  unfold gList at f
  dsimp only at f
  cases e : seqD x h with
  | none => rw [e] at f; exact f.elim
  | some xs =>
    rw [e] at f
    obtain ⟨a, ws, rfl, q, r2⟩ := seq_of rh r e
    rw [hK] at q
    refine ⟨_, call_list_of, a, ws, rfl, q, fun l hl => ?_⟩
    obtain ⟨a1, b1, c1⟩ := new_lst rh r2 hl
    exact f _ _ _ a1 b1 c1
theorem cd_tuple (hK : R.K = X.K) : CallD X R (.type "tuple") gTuple := by
  refine one_of (fun x α h H v W σ Q rh r f => ?_) (not_one (fun _ => rfl) fun _ _ _ _ => rfl)
  unfold gTuple at f
  dsimp only at f
  cases e : seqD x h with
  | none => rw [e] at f; exact f.elim
  | some xs =>
    rw [e] at f
    obtain ⟨a, ws, rfl, q, r2⟩ := seq_of rh r e
    rcases q with q | q
    · refine ⟨_, call_tuple_of, a, ws, rfl, .inl ⟨hK ▸ q, fun l hl => ?_⟩⟩
      obtain ⟨a1, b1, c1⟩ := new_tup rh r2 hl
      exact f _ _ _ a1 b1 c1
    · exact ⟨_, call_tuple_of, a, ws, rfl, .inr ⟨hK ▸ q, f α H _ .refl rh (.tup q r2)⟩⟩
theorem minL_spec : ∀ (r : List Int) (n : Int), minL (n :: r) ∈ n :: r ∧ ∀ y ∈ n :: r, minL (n :: r) ≤ y
  | [], n => ⟨by simp [minL], by simp [minL]⟩
  | m :: r, n => by
    obtain ⟨h1, h2⟩ := minL_spec r m
    unfold minL
    split
    · rename_i h
      refine ⟨by simp, fun y hy => ?_⟩
      rcases List.mem_cons.mp hy with rfl | hy
      · exact Int.le_refl _
      · exact Int.le_trans h (h2 y hy)
    · rename_i h
      refine ⟨List.mem_cons_of_mem _ h1, fun y hy => ?_⟩
      rcases List.mem_cons.mp hy with rfl | hy
      · omega
      · exact h2 y hy
theorem maxL_spec : ∀ (r : List Int) (n : Int), maxL (n :: r) ∈ n :: r ∧ ∀ y ∈ n :: r, y ≤ maxL (n :: r)
  | [], n => ⟨by simp [maxL], by simp [maxL]⟩
  | m :: r, n => by
    obtain ⟨h1, h2⟩ := maxL_spec r m
    unfold maxL
    split
    · rename_i h
      refine ⟨by simp, fun y hy => ?_⟩
      rcases List.mem_cons.mp hy with rfl | hy
      · exact Int.le_refl _
      · exact Int.le_trans (h2 y hy) h
    · rename_i h
      refine ⟨List.mem_cons_of_mem _ h1, fun y hy => ?_⟩
      rcases List.mem_cons.mp hy with rfl | hy
      · omega
      · exact h2 y hy
/-- min of a tuple -/
theorem cr_minT (hc : X.calm = true) : CallR X (.builtin "min") (fun vs H Q => ∃ (a : Addr) (ns : List Int), vs = [V.ref a] ∧ SqT X.K H a (ns.map V.int) ∧ 0 < ns.length ∧ ∀ m, m ∈ ns → (∀ y, y ∈ ns → m ≤ y) → Q (.int m) H) := by
  intro pins s σ H vs us Q I r h
  obtain ⟨a, ns, rfl, hs, hne, q⟩ := h
  obtain ⟨its, rv, hl, _⟩ := I.tuple hs
  rw [Vals.ref1 r]
  exact TupW.min_tup (I.ok.hd hc) (show s.heap.IsTuple a its.toArray from hl) rv.ints hne fun h' tk m t' hk h1 h2 => ⟨.int _, H, I.kept hk, ⟨_, rfl⟩, q m h1 h2⟩
theorem cr_maxT (hc : X.calm = true) : CallR X (.builtin "max") (fun vs H Q => ∃ (a : Addr) (ns : List Int), vs = [V.ref a] ∧ SqT X.K H a (ns.map V.int) ∧ 0 < ns.length ∧ ∀ m, m ∈ ns → (∀ y, y ∈ ns → y ≤ m) → Q (.int m) H) := by
  intro pins s σ H vs us Q I r h
  obtain ⟨a, ns, rfl, hs, hne, q⟩ := h
  obtain ⟨its, rv, hl, _⟩ := I.tuple hs
  rw [Vals.ref1 r]
  exact TupW.max_tup (I.ok.hd hc) (show s.heap.IsTuple a its.toArray from hl) rv.ints hne fun h' tk m t' hk h1 h2 => ⟨.int _, H, I.kept hk, ⟨_, rfl⟩, q m h1 h2⟩
theorem cr_sumT (hc : X.calm = true) : CallR X (.builtin "sum") (fun vs H Q => ∃ (a : Addr) (ns : List Int), vs = [V.ref a] ∧ SqT X.K H a (ns.map V.int) ∧ Q (.int ns.sum) H) := by
  intro pins s σ H vs us Q I r h
  obtain ⟨a, ns, rfl, hs, q⟩ := h
  obtain ⟨its, rv, hl, _⟩ := I.tuple hs
  rw [Vals.ref1 r]
  exact TupW.sum_tup (I.ok.hd hc) (show s.heap.IsTuple a its.toArray from hl) rv.ints fun h' tk t' hk => ⟨.int _, H, I.kept hk, ⟨_, rfl⟩, q⟩
theorem ints_seq {α : List Addr} {H : Hp} {h : Hd} {x : D} {v : V} {xs : List D} {ns : List Int} (hK : R.K = X.K) (rh : RH R α h H) (r : RelD R α H x v) (e : seqD x h = some xs) (e2 : intsD xs = some ns) : ∃ a, v = .ref a ∧ (SqL X.K H a (ns.map V.int) ∨ SqT X.K H a (ns.map V.int)) := by
  obtain ⟨a, ws, rfl, q, r2⟩ := seq_of rh r e
  rw [intsD_rel e2 r2, hK] at q
  exact ⟨a, rfl, q⟩
theorem cd_mm {nm : String} {one : List Int → Int} {two : Int → Int → Int} {r1 r2 r3 : List V → Hp → VK → Prop} (hK : R.K = X.K) (h1 : CallR X (.builtin nm) r1) (h2 : CallR X (.builtin nm) r2) (h3 : CallR X (.builtin nm) r3)
    (q1 : ∀ a n r H Q, SqL X.K H a ((n :: r).map V.int) → Q (V.int (one (n :: r))) H → r1 [.ref a] H Q) (q2 : ∀ a n r H Q, SqT X.K H a ((n :: r).map V.int) → Q (V.int (one (n :: r))) H → r2 [.ref a] H Q)
    (q3 : ∀ i j H Q, Q (V.int (two i j)) H → r3 [.int i, .int j] H Q) : CallD X R (.builtin nm) (gMinMax one two) := by
  intro ds α h H vs W σ Q rh rd f
  have go : ∀ x, ds = [x] → FinE R W α H σ (match seqD x h with
    | some xs => (match intsD xs with
      | some (n :: r) => .ok (.int (one (n :: r))) h
      | _ => .no)
    | none => .no) Q → ∃ r, CallR X (.builtin nm) r ∧ r vs H Q := fun x e f2 => by
    clear f
    subst e
    obtain ⟨v, rfl, r⟩ := rd.one
    cases e : seqD x h with
    | none => rw [e] at f2; exact f2.elim
    | some xs =>
      rw [e] at f2
      dsimp only at f2
      cases e2 : intsD xs with
      | none => rw [e2] at f2; exact f2.elim
      | some ns =>
        rw [e2] at f2
        cases ns with
        | nil => exact (show False from f2).elim
        | cons n t =>
          obtain ⟨a, rfl, q⟩ := ints_seq hK rh r e e2
          rcases q with q | q
          · exact ⟨_, h1, q1 a n t H Q q (f2 α H _ .refl rh .int)⟩
          · exact ⟨_, h2, q2 a n t H Q q (f2 α H _ .refl rh .int)⟩
  cases ds with
  | nil => exact (show False from f).elim
  | cons x t =>
    cases t with
    | nil => cases x <;> exact go _ rfl f
    | cons y t =>
      cases t with
      | cons _ _ => cases x <;> cases y <;> exact (show False from f).elim
      | nil =>
        cases x with
        | int i =>
          cases y with
          | int j =>
            obtain ⟨v, v', rfl, r1, r2⟩ := rd.two
            rw [r1.int_inv, r2.int_inv]
            exact ⟨_, h3, q3 i j H Q (f α H _ .refl rh .int)⟩
          | _ => exact (show False from f).elim
        | _ => cases y <;> exact (show False from f).elim
theorem le_anti {a b : Int} (h : a ≤ b) (h2 : b ≤ a) : a = b := Int.le_antisymm h h2
theorem cd_min (hK : R.K = X.K) (hc : X.calm = true) : CallD X R (.builtin "min") gMin := by
  refine cd_mm hK (cr_min hc) (cr_minT hc) (call_min2 hc) (fun a n r H Q q h => ?_) (fun a n r H Q q h => ?_) fun i j H Q h => ⟨i, j, rfl, h⟩
  · refine ⟨a, n :: r, rfl, q, by simp, fun m hm h2 => ?_⟩
    obtain ⟨s1, s2⟩ := minL_spec r n
    rw [le_anti (h2 _ s1) (s2 _ hm)]
    exact h
  · refine ⟨a, n :: r, rfl, q, by simp, fun m hm h2 => ?_⟩
    obtain ⟨s1, s2⟩ := minL_spec r n
    rw [le_anti (h2 _ s1) (s2 _ hm)]
    exact h
theorem cd_max (hK : R.K = X.K) (hc : X.calm = true) : CallD X R (.builtin "max") gMax := by
  refine cd_mm hK (cr_max hc) (cr_maxT hc) (call_max2 hc) (fun a n r H Q q h => ?_) (fun a n r H Q q h => ?_) fun i j H Q h => ⟨i, j, rfl, h⟩
  · refine ⟨a, n :: r, rfl, q, by simp, fun m hm h2 => ?_⟩
    obtain ⟨s1, s2⟩ := maxL_spec r n
    rw [le_anti (s2 _ hm) (h2 _ s1)]
    exact h
  · refine ⟨a, n :: r, rfl, q, by simp, fun m hm h2 => ?_⟩
    obtain ⟨s1, s2⟩ := maxL_spec r n
    rw [le_anti (s2 _ hm) (h2 _ s1)]
    exact h
theorem cd_sum (hK : R.K = X.K) (hc : X.calm = true) : CallD X R (.builtin "sum") gSum := by
  refine one_of (fun x α h H v W σ Q rh r f => ?_) (not_one (fun _ => rfl) fun _ _ _ _ => rfl)
  unfold gSum at f
  dsimp only at f
  cases e : seqD x h with
  | none => rw [e] at f; exact f.elim
  | some xs =>
    rw [e] at f
    dsimp only at f
    cases e2 : intsD xs with
    | none => rw [e2] at f; exact f.elim
    | some ns =>
      rw [e2] at f
      obtain ⟨a, rfl, q⟩ := ints_seq hK rh r e e2
      rcases q with q | q
      · exact ⟨_, cr_sum hc, a, ns, rfl, q, f α H _ .refl rh .int⟩
      · exact ⟨_, cr_sumT hc, a, ns, rfl, q, f α H _ .refl rh .int⟩
theorem cd_abs : CallD X R (.builtin "abs") gAbs := by
  refine one_of (fun x α h H v W σ Q rh r f => ?_) (not_one (fun _ => rfl) fun _ _ _ _ => by unfold gAbs; split <;> simp_all)
  cases x with
  | int i => rw [r.int_inv]; exact ⟨_, call_abs, i, rfl, f α H _ .refl rh .int⟩
  | _ => exact (show False from f).elim
theorem cd_all (hK : R.K = X.K) (hc : X.calm = true) : CallD X R (.builtin "all") gAll := by
  refine one_of (fun x α h H v W σ Q rh r f => ?_) (not_one (fun _ => rfl) fun _ _ _ _ => rfl)
  unfold gAll at f
  dsimp only at f
  cases e : lstD x h with
  | none => rw [e] at f; exact f.elim
  | some xs =>
    rw [e] at f
    dsimp only at f
    cases e2 : boolsD xs with
    | none => rw [e2] at f; exact f.elim
    | some ns =>
      rw [e2] at f
      obtain ⟨a, ws, rfl, q, r2⟩ := lstD_of rh r e
      rw [boolsD_rel e2 r2, hK] at q
      exact ⟨_, cr_all hc, a, ns, rfl, q, f α H _ .refl rh .bl⟩
theorem cd_any (hK : R.K = X.K) (hc : X.calm = true) : CallD X R (.builtin "any") gAny := by
  refine one_of (fun x α h H v W σ Q rh r f => ?_) (not_one (fun _ => rfl) fun _ _ _ _ => rfl)
  unfold gAny at f
  dsimp only at f
  cases e : lstD x h with
  | none => rw [e] at f; exact f.elim
  | some xs =>
    rw [e] at f
    dsimp only at f
    cases e2 : boolsD xs with
    | none => rw [e2] at f; exact f.elim
    | some ns =>
      rw [e2] at f
      obtain ⟨a, ws, rfl, q, r2⟩ := lstD_of rh r e
      rw [boolsD_rel e2 r2, hK] at q
      exact ⟨_, cr_any hc, a, ns, rfl, q, f α H _ .refl rh .bl⟩
theorem insI_perm (n : Int) : ∀ l : List Int, (insI n l).Perm (n :: l)
  | [] => .refl _
  | m :: r => by
    unfold insI
    split
    · exact .refl _
    · exact ((insI_perm n r).cons m).trans (.swap n m r)
theorem sortI_perm : ∀ l : List Int, (sortI l).Perm l
  | [] => .refl _
  | n :: r => (insI_perm n (sortI r)).trans ((sortI_perm r).cons n)
theorem insI_sorted (n : Int) : ∀ l : List Int, l.Pairwise (· ≤ ·) → (insI n l).Pairwise (· ≤ ·)
  | [], _ => by simp [insI]
  | m :: r, h => by
    rw [List.pairwise_cons] at h
    unfold insI
    split
    · rename_i hnm
      rw [List.pairwise_cons]
      refine ⟨fun y hy => ?_, List.pairwise_cons.mpr h⟩
      rcases List.mem_cons.mp hy with rfl | hy
      · exact hnm
      · exact Int.le_trans hnm (h.1 y hy)
    · rename_i hnm
      rw [List.pairwise_cons]
      refine ⟨fun y hy => ?_, insI_sorted n r h.2⟩
      have := (insI_perm n r).mem_iff.mp hy
      rcases List.mem_cons.mp this with rfl | hy
      · omega
      · exact h.1 y hy
theorem sortI_sorted : ∀ l : List Int, (sortI l).Pairwise (· ≤ ·)
  | [] => .nil
  | n :: r => insI_sorted n _ (sortI_sorted r)
theorem sorted_uniq : ∀ {l m : List Int}, l.Perm m → l.Pairwise (· ≤ ·) → m.Pairwise (· ≤ ·) → l = m
  | [], m, p, _, _ => (List.nil_perm.mp p).symm
  | a :: l, [], p, _, _ => (List.perm_nil.mp p)
  | a :: l, b :: m, p, h1, h2 => by
    rw [List.pairwise_cons] at h1 h2
    have e : a = b := by
      have ha := p.mem_iff.mp (List.mem_cons_self ..)
      have hb := p.symm.mem_iff.mp (List.mem_cons_self ..)
      rcases List.mem_cons.mp ha with e | ha
      · exact e
      · rcases List.mem_cons.mp hb with e | hb
        · exact e.symm
        · have z1 := h1.1 b hb
          have z2 := h2.1 a ha
          omega
    subst e
    rw [sorted_uniq ((List.perm_cons a).mp p) h1.2 h2.2]
theorem rel_ints {α : List Addr} {H : Hp} : ∀ ns : List Int, RelDs R α H (ns.map .int) (ns.map .int)
  | [] => .nil
  | _ :: r => .cons .int (rel_ints r)
theorem cd_sorted (hK : R.K = X.K) : CallD X R (.builtin "sorted") gSorted := by
  refine one_of (fun x α h H v W σ Q rh r f => ?_) (not_one (fun _ => rfl) fun _ _ _ _ => rfl)
  unfold gSorted at f
  dsimp only at f
  cases e : lstD x h with
  | none => rw [e] at f; exact f.elim
  | some xs =>
    rw [e] at f
    dsimp only at f
    cases e2 : intsD xs with
    | none => rw [e2] at f; exact f.elim
    | some ns =>
      rw [e2] at f
      obtain ⟨a, ws, rfl, q, r2⟩ := lstD_of rh r e
      rw [intsD_rel e2 r2, hK] at q
      refine ⟨_, cr_sortedI, a, ns, rfl, q, fun ns' p hp hs hn => ?_⟩
      have e3 : ns' = sortI ns := sorted_uniq (hp.trans (sortI_perm ns).symm) hs (sortI_sorted ns)
      subst e3
      obtain ⟨a1, b1, c1⟩ := new_lst rh (rel_ints (R := R) (α := α) (H := H) (sortI ns)) hn
      exact f _ _ _ a1 b1 c1
theorem cd_int : CallD X R (.type "int") gInt := by
  refine one_of (fun x α h H v W σ Q rh r f => ?_) (not_one (fun _ => rfl) fun _ _ _ _ => by unfold gInt; split <;> simp_all)
  cases x with
  | int i => rw [r.int_inv]; exact ⟨_, call_int1, .inl ⟨i, rfl, f α H _ .refl rh .int⟩⟩
  | bl i => rw [r.bl_inv]; exact ⟨_, call_int1, .inr ⟨i, rfl, f α H _ .refl rh .int⟩⟩
  | _ => exact (show False from f).elim
/-- repr of data -/
def rRepr (K : PySem.W.Frag) : List V → Hp → VK → Prop := fun vs H Q => ∃ v d, vs = [v] ∧ Dp K H v d ∧ repOk d = true ∧ Q (.str d.shown) H
theorem cr_repr (hgd : X.A.guards = some []) (hu : X.A.units + 64 < cLine) : CallR X (.builtin "repr") (rRepr X.K) := by
  intro pins s σ H vs us Q I r h
  obtain ⟨v, d, rfl, dp, ok, q⟩ := h
  obtain ⟨u, rfl, ru⟩ := r.one
  unfold repOk at ok
  rw [Bool.and_eq_true, Bool.and_eq_true, Bool.and_eq_true, decide_eq_true_eq, decide_eq_true_eq, Bool.not_eq_true'] at ok
  obtain ⟨⟨⟨k1, k2⟩, k3⟩, k4⟩ := ok
  have hz : d.shown.length ≤ sizeLine := by rw [lineEq]; exact k4
  have go : ∀ a, u = .ref a → wpAny (model X.prog X.w) X.A (call (.builtin "repr") [u]) (EP X pins σ Q) X.xe s := fun a e => by
    subst e
    obtain ⟨as, rd⟩ := Dp.reads I d v _ dp ru
    exact repr_of_reads' rd k1 (fun hx => by rw [k2] at hx; exact absurd hx Bool.false_ne_true) hgd (by omega) (fun _ _ e => e) (fun h' u tk hk => ⟨.str d.shown, H, I.kept hk, ⟨_, rfl⟩, q⟩) hz
  cases dp with
  | non => cases ru; exact P.repr_of_none ⟨.str _, H, I.tok _, ⟨_, by first | rfl | (simp only [PyData.shown]; rfl)⟩, q⟩
  | bl b => cases ru; exact P.repr_of_bool ⟨.str _, H, I.tok _, ⟨_, by first | rfl | (simp only [PyData.shown]; rfl)⟩, q⟩
  | int i =>
    obtain ⟨t, rfl⟩ := ru
    have : i.natAbs.log2 < 1920 := by simpa [PyData.showable] using k1
    exact P.repr_of_int this ⟨.str _, H, I.tok _, ⟨_, by first | rfl | (simp only [PyData.shown]; rfl)⟩, q⟩
  | str z =>
    obtain ⟨t, rfl⟩ := ru
    exact P.repr_of_str ⟨.str _, H, I.tok _, ⟨_, by first | rfl | (simp only [PyData.shown]; rfl)⟩, q⟩ (by simpa only [PyData.shown] using hz)
  | lst a b => exact go _ ru
  | tup a b => exact go _ ru
theorem cd_repr (hK : R.K = X.K) (hgd : X.A.guards = some []) (hu : X.A.units + 64 < cLine) : CallD X R (.builtin "repr") gRepr := by
  refine one_of (fun x α h H v W σ Q rh r f => ?_) (not_one (fun _ => rfl) fun _ _ _ _ => rfl)
  unfold gRepr at f
  dsimp only at f
  cases e : toP maxP h x with
  | none => rw [e] at f; exact f.elim
  | some d =>
    rw [e] at f
    dsimp only at f
    split at f
    · rename_i ok
      exact ⟨_, cr_repr hgd hu, v, d, rfl, hK ▸ toP_dp rh e r, ok, f α H _ .refl rh .str⟩
    · exact f.elim
theorem cd_isi (hK : R.K = X.K) : CallD X R (.builtin "isinstance") gIsi := by
  intro ds α h H vs W σ Q rh rd f
  cases ds with
  | nil => exact (show False from f).elim
  | cons x t =>
    cases t with
    | nil => cases x <;> exact (show False from f).elim
    | cons y t =>
      cases t with
      | cons _ _ => cases y <;> exact (show False from f).elim
      | nil =>
        cases y with
        | ty T =>
          unfold gIsi at f
          dsimp only at f
          cases e : tyName x h with
          | none => rw [e] at f; exact f.elim
          | some t =>
            rw [e] at f
            dsimp only at f
            split at f
            · rename_i hT
              obtain ⟨v, v', rfl, r1, r2⟩ := rd.two
              rw [r2.ty_inv]
              obtain ⟨m, tx⟩ := ty_of hK rh r1 e
              exact ⟨_, call_isi, v, .ty T, .type t, .type T, _, rfl, .ty T, tx, kit_tab X.K t m T (by simpa using hT), f α H _ .refl rh .bl⟩
            · exact f.elim
        | _ => exact (show False from f).elim
end
end Mi

set_option Elab.async false
set_option linter.all false
set_option maxRecDepth 100000
set_option maxHeartbeats 1000000
namespace Mi
open PySem PySem.Spec PyProof.Rows L2
/-! ### a chain of two comparisons -/
section
variable {Tt : List (Addr × Str)} {X : Cx} {R : Rx} {W : WX} {pos : Pos} {a b c : Expr} {fa fb fc : Fe} {op op' : CmpOp} {g g' : D → D → Hd → Res D}
def rOU (X : Cx) (f : Value → Value → Sem Value) : R2 := fun x y H Q => ∃ r, OpR X f r ∧ r x y H Q
theorem opU {f : Value → Value → Sem Value} : OpR X f (rOU X f) := fun pins s σ H x y v u Q I rx ry ⟨r, h1, h2⟩ => h1 pins s σ H x y v u Q I rx ry h2
theorem chain_in (ho : OpD X R (compareOp op) g) (ho' : OpD X R (compareOp op') g') {σ : St} {H : Hp} {Q : VK} (h : tE R W (eChain g g' fa fb fc) σ H Q) : tChain (rOU X (compareOp op)) (rOU X (compareOp op')) (tE R W fa) (tE R W fb) (tE R W fc) σ H Q := by
  obtain ⟨α, env, hp, re, rh, fi⟩ := h
  refine ⟨α, env, hp, re, rh, (Fin.split fi).imp fun x H1 hq => ?_⟩
  obtain ⟨dx, α1, h1, _, x1, rh1, r1, f1⟩ := hq
  refine ⟨α1, env, h1, re.ext x1, rh1, (Fin.split f1).imp fun y H2 hq => ?_⟩
  obtain ⟨dy, α2, h2, _, x2, rh2, r2, f2⟩ := hq
  have rx := RelD.ext x2 _ _ r1
  refine ho _ _ _ _ _ _ _ _ _ _ rh2 rx r2 ((Fin.split f2).imp fun z H3 hq => ?_)
  obtain ⟨dz, α3, h3, _, x3, rh3, r3, f3⟩ := hq
  cases dz with
  | bl k =>
    refine ⟨k, r3.bl_inv, ?_⟩
    cases k with
    | true =>
      rw [if_pos rfl]
      refine ⟨α3, env, h3, ((re.ext x1).ext x2).ext x3, rh3, (Fin.split f3).imp fun w H4 hq => ?_⟩
      obtain ⟨dw, α4, h4, _, x4, rh4, r4, f4⟩ := hq
      exact ho' _ _ _ _ _ _ _ _ _ _ rh4 (RelD.ext (x3.trans x4) _ _ r2) r4 f4
    | false =>
      rw [if_neg (by decide)]
      exact f3 α3 H3 _ .refl rh3 .bl
  | _ => exact (show False from f3).elim
theorem de_chain (ho : OpD X R (compareOp op) g) (ho' : OpD X R (compareOp op') g') (ha : DE X R W a fa) (hb : DE X R W b fb) (hc : DE X R W c fc) (hm : lastMarks [op, op'] [b, c] = false := by with_unfolding_all rfl) :
    DE X R W (.Compare a [op, op'] [b, c] pos) (eChain g g' fa fb fc) :=
  ⟨fun pins s σ H Q I h => (pe_chain (pos := pos) opU opU ha hb hc hm).run pins s σ H Q I (chain_in ho ho' h)⟩
theorem dt_chain (ho : OpD X R (compareOp op) g) (ho' : OpD X R (compareOp op') g') (ha : DE X R W a fa) (hb : DE X R W b fb) (hc : DE X R W c fc) (hm : lastMarks [op, op'] [b, c] = false := by with_unfolding_all rfl) :
    DT X R W (.Compare a [op, op'] [b, c] pos) (tOf (eChain g g' fa fb fc)) := by
  refine ⟨fun pins s σ H Q I h => (pt_chain (pos := pos) opU opU ha hb hc hm).run pins s σ H Q I ?_⟩
  obtain ⟨α, env, hp, re, rh, fi⟩ := h
  refine chain_in (W := W) ho ho' ⟨α, env, hp, re, rh, (Fin.split (g := toB) fi).imp fun v H1 hq => ?_⟩
  obtain ⟨d, α1, h1, _, x1, rh1, rd1, f1⟩ := hq
  cases d with
  | bl k => exact ⟨k, rd1.bl_inv, f1 α1 H1 k .refl rh1 rfl⟩
  | _ => exact (show False from f1).elim
end
/-! ### methods of built-in types -/
abbrev Gm := D → List D → Hd → Res D
@[simp] def recvOk (T : String) (x : D) (h : Hd) : Bool := match x with
  | .str _ => T == "str"
  | .ref n => (match h[n]? with
    | some (.lst _) => T == "list"
    | some (.fro _) => T == "list"
    | _ => false)
  | _ => false
@[simp] def eMeth (T : String) (g : Gm) (fo : Fe) (fa : Fa) : Fe := fun env h => (fo env h).bind fun x h1 => if recvOk T x h1 = true then (fa env h1).bind fun ds h2 => g x ds h2 else .no
def MtD (X : Cx) (R : Rx) (id : String) (g : Gm) : Prop :=
  ∀ (x : D) (ds : List D) (α : List Addr) (h : Hd) (H : Hp) (v : V) (vs : List V) (W : WX) (σ : St) (Q : VK), RH R α h H → RelD R α H x v → RelDs R α H ds vs → FinE R W α H σ (g x ds h) Q → ∃ r, MtM X id r ∧ r v vs H Q
section
variable {Tt : List (Addr × Str)} {X : Cx} {R : Rx} {W : WX} {o e : Expr} {es : List Expr} {fo : Fe} {fa : Fa} {name : Str} {apos cpos : Pos} {T mid : String} {g : Gm}
theorem recv_ty {α : List Addr} {H : Hp} {h : Hd} {x : D} {v : V} (hK : R.K = X.K) (rh : RH R α h H) (r : RelD R α H x v) (ok : recvOk T x h = true) : tyV X.K T v H := by
  cases x with
  | str z => rw [r.str_inv]; exact beq_iff_eq.mp ok
  | ref n =>
    obtain ⟨a, ea, rfl⟩ := r.ref_inv
    unfold recvOk at ok
    dsimp only at ok
    obtain ⟨ob, eo, ro⟩ := rh.at ea
    rw [eo] at ok
    cases ob with
    | lst xs =>
      obtain ⟨vs, q, _⟩ := lst_of rh ea (.inl eo)
      exact .inl ⟨beq_iff_eq.mp ok, vs, hK ▸ q⟩
    | fro xs =>
      obtain ⟨vs, q, _⟩ := lst_of rh ea (.inr eo)
      exact .inl ⟨beq_iff_eq.mp ok, vs, hK ▸ q⟩
    | dic xs => cases ok
  | _ => cases ok
theorem de_meth (hK : R.K = X.K) (pa : PlainAttrs T) (slot : Slot T name mid) (hty : typeOf (.builtin mid) = pure (.type "method_descriptor")) (hm : MtD X R mid g) (ho : DE X R W o fo) (ha : DA X R W (e :: es) fa)
    (hbase : attributeBase o name X.env (eval o X.env) = eval o X.env := by rfl)
    (hfew : ((backTo cpos (starEach (e :: es) X.env)).all (fun x => !x.1) && (backToKw cpos (keywordEach [] X.env)).all (fun x => x.1.isSome)
      && decide ((e :: es).length + ([] : List Keyword).length + (if ([] : List Keyword).isEmpty then 0 else 1) < 30)) = true := by rfl)
    (hline : (apos.endLine == cpos.line) = true := by rfl) (hs : starEach (e :: es) X.env = (false, eval e X.env) :: starEach es X.env := by rfl) (hplain : (backTo cpos (starEach es X.env)).any (·.1) = false := by rfl) :
    DE X R W (.Call (.Attribute o name apos) (e :: es) [] cpos) (eMeth T g fo fa) := by
  have hU : MtR X mid (fun x xs H Q => ∃ r, MtM X mid r ∧ r x xs H Q) := fun pins s σ H x xs v us Q I rx rs ⟨r, h1, h2⟩ => h1 pins s σ H x xs v us Q I rx rs h2
  refine ⟨fun pins s σ H Q I h => (pe_bm (apos := apos) (cpos := cpos) pa slot hty hU ho ha hbase hfew hline hs hplain).run pins s σ H Q I ?_⟩
  obtain ⟨α, env, hp, re, rh, fi⟩ := h
  refine ⟨α, env, hp, re, rh, (Fin.split fi).imp fun v H1 hq => ?_⟩
  obtain ⟨x, α1, h1, _, x1, rh1, r1, f1⟩ := hq
  split at f1
  · rename_i ok
    refine ⟨recv_ty hK rh1 r1 ok, α1, env, h1, re.ext x1, rh1, (Fin.split f1).imp fun vs H2 hq => ?_⟩
    obtain ⟨ds, α2, h2, _, x2, rh2, r2, f2⟩ := hq
    exact hm _ _ _ _ _ _ _ _ _ _ rh2 (RelD.ext x2 _ _ r1) r2 f2
  · exact (show False from f1).elim
theorem de_meth0 (hK : R.K = X.K) (pa : PlainAttrs T) (slot : Slot T name mid) (hty : typeOf (.builtin mid) = pure (.type "method_descriptor")) (hm : MtD X R mid g) (ho : DE X R W o fo)
    (hbase : attributeBase o name X.env (eval o X.env) = eval o X.env := by rfl) (hline : (apos.endLine == cpos.line) = true := by rfl) : DE X R W (.Call (.Attribute o name apos) [] [] cpos) (eMeth T g fo aNil) := by
  have hU : MtR X mid (fun x xs H Q => ∃ r, MtM X mid r ∧ r x xs H Q) := fun pins s σ H x xs v us Q I rx rs ⟨r, h1, h2⟩ => h1 pins s σ H x xs v us Q I rx rs h2
  refine ⟨fun pins s σ H Q I h => (pe_bm0 (apos := apos) (cpos := cpos) pa slot hty hU ho hbase hline).run pins s σ H Q I ?_⟩
  obtain ⟨α, env, hp, re, rh, fi⟩ := h
  refine ⟨α, env, hp, re, rh, (Fin.split fi).imp fun v H1 hq => ?_⟩
  obtain ⟨x, α1, h1, _, x1, rh1, r1, f1⟩ := hq
  split at f1
  · rename_i ok
    exact ⟨recv_ty hK rh1 r1 ok, hm _ _ _ _ _ _ _ _ _ _ rh1 r1 .nil f1⟩
  · exact (show False from f1).elim
@[simp] def mAppend : Gm := fun x ds h => match x, ds with
  | .ref n, [d] => (match h[n]? with
    | some (.lst xs) => if xs.length < 16777216 then .ok .non (h.set n (.lst (xs ++ [d]))) else .no
    | _ => .no)
  | _, _ => .no
@[simp] def mExtend : Gm := fun x ds h => match x, ds with
  | .ref n, [.ref m] => (match h[n]?, h[m]? with
    | some (.lst xs), some (.lst ys) => if xs.length + ys.length ≤ 16777216 then .ok .non (h.set n (.lst (xs ++ ys))) else .no
    | _, _ => .no)
  | _, _ => .no
def mPop : Gm := fun x ds h => match x, ds with
  | .ref n, [] => (match h[n]? with
    | some (.lst xs) => (match xs[xs.length - 1]? with
      | some d => .ok d (h.set n (.lst xs.dropLast))
      | none => .no)
    | _ => .no)
  | .ref n, [.int i] => (match h[n]? with
    | some (.lst xs) => if rngOk i = true then (match ixN xs.length i with
      | some k => (match xs[k]? with
        | some d => .ok d (h.set n (.lst (xs.eraseIdx k)))
        | none => .no)
      | none => .no) else .no
    | _ => .no)
  | _, _ => .no
theorem write_lst {α : List Addr} {H : Hp} {h : Hd} {n : Nat} {a : Addr} {vs ws : List V} {ys : List D} (rh : RH R α h H) (ea : α[n]? = some a) (q : H a = some (.lst vs)) (r : RelDs R α H ys ws) :
    Ext α H α (upd H a (.lst ws)) ∧ RH R α (h.set n (.lst ys)) (upd H a (.lst ws)) := by
  have x := Ext.write (α := α) (o := .lst ws) ea q trivial
  exact ⟨x, rh.write ea q trivial ⟨ws, upd_same, RelDs.ext x _ _ r⟩⟩
theorem md_append : MtD X R "list.append" mAppend := by
  intro x ds α h H v vs W σ Q rh rx rd f
  cases x with
  | ref n =>
    obtain ⟨a, ea, rfl⟩ := rx.ref_inv
    match ds, rd, f with
    | [], _, f => exact (show False from f).elim
    | _ :: _ :: _, _, f => exact (show False from f).elim
    | [d], rd, f =>
      unfold mAppend at f
      dsimp only at f
      obtain ⟨o, eo, ro⟩ := rh.at ea
      rw [eo] at f
      cases o with
      | lst xs =>
        obtain ⟨ws, q, r⟩ := ro
        obtain ⟨u, rfl, ru⟩ := rd.one
        dsimp only at f
        split at f
        · rename_i hl
          obtain ⟨x1, rh1⟩ := write_lst rh ea q (r.append (.cons ru .nil))
          exact ⟨_, mt_append, a, ws, u, rfl, rfl, q, by rw [← r.length, lineEq]; exact hl, f α _ _ x1 rh1 .non⟩
        · exact f.elim
      | _ => exact (show False from f).elim
  | _ => exact (show False from f).elim
theorem md_extend : MtD X R "list.extend" mExtend := by
  intro x ds α h H v vs W σ Q rh rx rd f
  cases x with
  | ref n =>
    obtain ⟨a, ea, rfl⟩ := rx.ref_inv
    match ds, rd, f with
    | [], _, f => exact (show False from f).elim
    | d :: _ :: _, _, f => cases d <;> exact (show False from f).elim
    | [d], rd, f =>
      cases d with
      | ref m =>
        unfold mExtend at f
        dsimp only at f
        obtain ⟨u, rfl, ru⟩ := rd.one
        obtain ⟨b, eb, rfl⟩ := ru.ref_inv
        obtain ⟨o, eo, ro⟩ := rh.at ea
        obtain ⟨o2, eo2, ro2⟩ := rh.at eb
        rw [eo, eo2] at f
        cases o with
        | lst xs =>
          cases o2 with
          | lst ys =>
            obtain ⟨ws, q, r⟩ := ro
            obtain ⟨zs, q2, r2⟩ := ro2
            dsimp only at f
            split at f
            · rename_i hl
              obtain ⟨x1, rh1⟩ := write_lst rh ea q (r.append r2)
              exact ⟨_, mt_extend, a, b, ws, zs, rfl, rfl, q, q2, by rw [← r.length, ← r2.length, lineEq]; exact hl, f α _ _ x1 rh1 .non⟩
            · exact f.elim
          | _ => exact (show False from f).elim
        | _ => exact (show False from f).elim
      | _ => exact (show False from f).elim
  | _ => exact (show False from f).elim
theorem RelDs.dropLast {α : List Addr} {H : Hp} : ∀ {xs : List D} {vs : List V}, RelDs R α H xs vs → RelDs R α H xs.dropLast vs.dropLast
  | [], _, r => by rw [r.nil_inv]; exact .nil
  | [x], _, r => by obtain ⟨v, rfl, _⟩ := r.one; exact .nil
  | x :: y :: t, _, r => by
    obtain ⟨v, r', rfl, h1, h2⟩ := r.cons_inv
    obtain ⟨v2, r2, rfl, h3, h4⟩ := h2.cons_inv
    exact .cons h1 (RelDs.dropLast (.cons h3 h4))
theorem md_pop : MtD X R "list.pop" mPop := by
  intro x ds α h H v vs W σ Q rh rx rd f
  cases x with
  | ref n =>
    obtain ⟨a, ea, rfl⟩ := rx.ref_inv
    match ds, rd, f with
    | d :: _ :: _, _, f => cases d <;> exact (show False from f).elim
    | [], rd, f =>
      unfold mPop at f
      dsimp only at f
      obtain ⟨o, eo, ro⟩ := rh.at ea
      rw [eo] at f
      cases o with
      | lst xs =>
        obtain ⟨ws, q, r⟩ := ro
        rw [rd.nil_inv]
        dsimp only at f
        cases e : xs[xs.length - 1]? with
        | none => rw [e] at f; exact f.elim
        | some d =>
          rw [e] at f
          obtain ⟨u, hu, ru⟩ := r.get e
          obtain ⟨x1, rh1⟩ := write_lst rh ea q r.dropLast
          exact ⟨_, mt_pop, a, ws, u, rfl, rfl, q, by rw [← r.length]; exact hu, f α _ _ x1 rh1 (RelD.ext x1 _ _ ru)⟩
      | _ => exact (show False from f).elim
    | [d], rd, f =>
      cases d with
      | int i =>
        unfold mPop at f
        dsimp only at f
        obtain ⟨o, eo, ro⟩ := rh.at ea
        rw [eo] at f
        cases o with
        | lst xs =>
          obtain ⟨ws, q, r⟩ := ro
          obtain ⟨u, rfl, ru⟩ := rd.one
          dsimp only at f
          split at f
          · rename_i hl0
            have hl := rngOk_of hl0
            have e62 : (2 : Int) ^ 62 = 4611686018427387904 := by decide
            rw [e62] at hl
            cases e0 : ixN xs.length i with
            | none => rw [e0] at f; exact f.elim
            | some k =>
              rw [e0] at f
              dsimp only at f
              cases e : xs[k]? with
              | none => rw [e] at f; exact f.elim
              | some d =>
                rw [e] at f
                obtain ⟨u2, hu, ru2⟩ := r.get e
                obtain ⟨x1, rh1⟩ := write_lst rh ea q (r.eraseIdx k)
                have e63 : (2 : Int) ^ 63 = 9223372036854775808 := by decide
                exact ⟨_, mt_popAt, a, ws, i, k, u2, rfl, by rw [ru.int_inv], q, by rw [e63]; omega, by rw [e63]; omega, by rw [← r.length]; exact (ixN_seq e0).1, hu, f α _ _ x1 rh1 (RelD.ext x1 _ _ ru2)⟩
          · exact f.elim
        | _ => exact (show False from f).elim
      | _ => exact (show False from f).elim
  | _ => exact (show False from f).elim
end
/-! ### o[i] = e -/
@[simp] def setAt (o i v : D) (h : Hd) : Option Hd := match o with
  | .ref n => (match h[n]? with
    | some (.lst xs) => (match i with
      | .int k => (match ixN xs.length k with
        | some j => some (h.set n (.lst (xs.set j v)))
        | none => none)
      | _ => none)
    | some (.dic kvs) => (match keyD i with
      | some ky => if kvs.length < 16777216 then some (h.set n (.dic (putD kvs ky v))) else none
      | none => none)
    | _ => none)
  | _ => none
@[simp] def sStore (fe fo fi : Fe) : Fs := sOf fe fun v => sOf fo fun o => sOf fi fun i env h => match setAt o i v h with
  | some h1 => .nx env h1
  | none => .no
section
variable {Tt : List (Addr × Str)} {X : Cx} {R : Rx} {W : WX} {pos p' : Pos} {o i e : Expr} {fo fi fe : Fe}
theorem pset_or (hu : X.A.units + 1 < cLine) : PSet X (fun o i v H Q => rSetL o i v H Q ∨ rSetD o i v H Q) := fun pins s σ H o i v ov iv u Q I ro ri rv h => by
  rcases h with h | h
  · exact set_list pins s σ H o i v ov iv u Q I ro ri rv h
  · exact set_dict hu pins s σ H o i v ov iv u Q I ro ri rv h
theorem ds_store (hu : X.A.units + 1 < cLine) (he : DE X R W e fe) (ho : DE X R W o fo) (hi : DE X R W i fi) (hs : swapsWithSole [.Subscript o i p'] e pos.line X.env = pure false := by rfl) (hw : swappedStores [.Subscript o i p'] e X.env = pure none := by rfl)
    (h1 : (assignEach [.Subscript o i p'] X.env).map (·.2) = [assign (.Subscript o i p') X.env] := by rfl)
    (ha : ∀ v, assign (.Subscript o i p') X.env v = (do
      let ov ← holding [v] (eval o X.env)
      let iv ← holding [v, ov] (eval i X.env)
      standAt p'
      holding [v, ov, iv] (setItem ov iv v)
      release [v, ov, iv] []) := by intro _; rfl) : DS X R W (.Assign [.Subscript o i p'] e pos) (sStore fe fo fi) := by
  refine ⟨fun pins s σ H D I h => (ps_asg he (pg_sub ho hi (pset_or hu) ha) hs hw h1).run pins s σ H D I ?_⟩
  obtain ⟨α, env, hp, re, rh, f⟩ := h
  refine ⟨α, env, hp, re, rh, (finS_of re f).imp fun v H1 hq => ?_⟩
  obtain ⟨dv, α1, h1, _, x1, rh1, rv, f1⟩ := hq
  refine ⟨α1, env, h1, re.ext x1, rh1, (finS_of (re.ext x1) f1).imp fun ov H2 hq => ?_⟩
  obtain ⟨dov, α2, h2, _, x2, rh2, ro, f2⟩ := hq
  refine ⟨α2, env, h2, (re.ext x1).ext x2, rh2, (finS_of ((re.ext x1).ext x2) f2).imp fun iv H3 hq => ?_⟩
  obtain ⟨div, α3, h3, _, x3, rh3, ri, f3⟩ := hq
  have rv := RelD.ext (x2.trans x3) _ _ rv
  have ro := RelD.ext x3 _ _ ro
  have re3 := ((re.ext x1).ext x2).ext x3
  have f3 : FinS R W α3 H3 D (match setAt dov div dv h3 with
    | some h1 => .nx env h1
    | none => .no) := f3
  cases dov with
  | ref n =>
    obtain ⟨a, ea, rfl⟩ := ro.ref_inv
    unfold setAt at f3
    dsimp only at f3
    obtain ⟨ob, eo, rob⟩ := rh3.at ea
    rw [eo] at f3
    cases ob with
    | lst xs =>
      obtain ⟨ws, q, r⟩ := rob
      cases div with
      | int k =>
        dsimp only at f3
        cases e0 : ixN xs.length k with
        | none => rw [e0] at f3; exact f3.elim
        | some j =>
          rw [e0] at f3
          obtain ⟨x4, rh4⟩ := write_lst rh3 ea q (r.set j rv)
          exact .inl ⟨a, ws, k, j, rfl, ri.int_inv, q, by rw [← r.length]; exact e0, f3 _ _ _ x4 rh4 (re3.ext x4)⟩
      | _ => exact (show False from f3).elim
    | fro xs => exact (show False from f3).elim
    | dic kvs =>
      obtain ⟨ws, q, r⟩ := rob
      dsimp only at f3
      cases ek : keyD div with
      | none => rw [ek] at f3; exact f3.elim
      | some ky =>
        rw [ek] at f3
        dsimp only at f3
        by_cases hl : kvs.length < 16777216
        · rw [if_pos hl] at f3
          have x4 : Ext α3 H3 α3 (upd H3 a (.dK (putK ws ky v))) := Ext.write ea q trivial
          have rh4 : RH R α3 (h3.set n (.dic (putD kvs ky dv))) (upd H3 a (.dK (putK ws ky v))) := rh3.write ea q trivial ⟨_, upd_same, RelKs.ext x4 _ _ (r.put rv)⟩
          exact .inr ⟨a, _, rfl, .inl ⟨ws, ky, q, keyD_rel ek ri, by rw [← r.length, lineEq]; exact hl, rfl⟩, f3 _ _ _ x4 rh4 (re3.ext x4)⟩
        · rw [if_neg hl] at f3
          exact f3.elim
  | _ => exact (show False from f3).elim
/-! ### a, b = x, y between plain local names -/
@[simp] def sPar2 (i j : Nat) (fa : Fa) : Fs := fun env h => match fa env h with
  | .ok [x, y] h1 => if (decide (i < env.length) && decide (j < env.length)) = true then .nx ((env.set i (some x)).set j (some y)) h1 else .no
  | .ex e h1 => .ex e env h1
  | _ => .no
@[simp] def sPar3 (i j l : Nat) (fa : Fa) : Fs := fun env h => match fa env h with
  | .ok [x, y, z] h1 => if (decide (i < env.length) && decide (j < env.length) && decide (l < env.length)) = true then .nx (((env.set i (some x)).set j (some y)).set l (some z)) h1 else .no
  | .ex e h1 => .ex e env h1
  | _ => .no
theorem ds_par2 {a b : Expr} (i j : Nat) {x y : Str} {fa : Fa} {px py pt : Pos} {kt k2 pt2} (hc : X.calm = true) (hN : X.N.Nodup) (ha : DA X R W [a, b] fa) (hi : X.N[i]? = some x := by rfl) (hj : X.N[j]? = some y := by rfl) (hij : i ≠ j := by decide)
    (hx : X.env.scope.names.lookup x = some .local := by rfl) (hy : X.env.scope.names.lookup y = some .local := by rfl)
    (hw : swappedStores [.Tuple [.Name x px, .Name y py] kt pt] (.Tuple [a, b] k2 pt2) X.env = pure (some [x, y]) := by rfl)
    (hs : swapsWithSole [.Tuple [.Name x px, .Name y py] kt pt] (.Tuple [a, b] k2 pt2) pos.line X.env = pure false := by rfl) :
    DS X R W (.Assign [.Tuple [.Name x px, .Name y py] kt pt] (.Tuple [a, b] k2 pt2) pos) (sPar2 i j fa) := by
  refine ⟨fun pins s σ H D I h => (ps_par (pos := pos) hc hN hi hj hij hx hy ha hw hs).run pins s σ H D I ?_⟩
  obtain ⟨α, env, hp, re, rh, f⟩ := h
  refine ⟨α, env, hp, re, rh, ?_⟩
  unfold sPar2 at f
  cases er : fa env hp with
  | no => rw [er] at f; exact f
  | ex e h1 => rw [er] at f; exact fun α1 H1 cls dd x1 rh1 r1 => f α1 H1 σ cls dd x1 rh1 (re.ext x1) r1
  | ok ds h1 =>
    rw [er] at f
    match ds, f with
    | [], f => exact (show False from f).elim
    | [_], f => exact (show False from f).elim
    | _ :: _ :: _ :: _, f => exact (show False from f).elim
    | [d1, d2], f =>
      dsimp only at f
      by_cases hl : (decide (i < env.length) && decide (j < env.length)) = true
      · rw [if_pos hl] at f
        intro α1 H1 vs x1 rh1 r1
        obtain ⟨v1, v2, rfl, q1, q2⟩ := r1.two
        exact ⟨v1, v2, rfl, f α1 H1 _ x1 rh1 (((re.ext x1).set q1).set q2)⟩
      · rw [if_neg hl] at f; exact f.elim
theorem RelDs.three {α : List Addr} {H : Hp} {d d' d'' : D} {vs : List V} (h : RelDs R α H [d, d', d''] vs) : ∃ v v' v'', vs = [v, v', v''] ∧ RelD R α H d v ∧ RelD R α H d' v' ∧ RelD R α H d'' v'' := by
  obtain ⟨v, r, e, h1, t⟩ := h.cons_inv
  obtain ⟨v', v'', e', h2, h3⟩ := t.two
  rw [e'] at e
  exact ⟨v, v', v'', e, h1, h2, h3⟩
theorem ds_par3 {a b c : Expr} (i j l : Nat) {x y z : Str} {fa : Fa} {px py pz pt : Pos} {kt k2 pt2} (hc : X.calm = true) (hN : X.N.Nodup) (ha : DA X R W [a, b, c] fa) (hi : X.N[i]? = some x := by rfl) (hj : X.N[j]? = some y := by rfl) (hl : X.N[l]? = some z := by rfl) (hij : i ≠ j := by decide) (hil : i ≠ l := by decide) (hjl : j ≠ l := by decide)
    (hx : X.env.scope.names.lookup x = some .local := by rfl) (hy : X.env.scope.names.lookup y = some .local := by rfl) (hz : X.env.scope.names.lookup z = some .local := by rfl)
    (hw : swappedStores [.Tuple [.Name x px, .Name y py, .Name z pz] kt pt] (.Tuple [a, b, c] k2 pt2) X.env = pure (some [x, y, z]) := by rfl)
    (hs : swapsWithSole [.Tuple [.Name x px, .Name y py, .Name z pz] kt pt] (.Tuple [a, b, c] k2 pt2) pos.line X.env = pure false := by rfl) :
    DS X R W (.Assign [.Tuple [.Name x px, .Name y py, .Name z pz] kt pt] (.Tuple [a, b, c] k2 pt2) pos) (sPar3 i j l fa) := by
  refine ⟨fun pins s σ H D I h => (ps_par3 (pos := pos) hc hN hi hj hl hij hil hjl hx hy hz ha hw hs).run pins s σ H D I ?_⟩
  obtain ⟨α, env, hp, re, rh, f⟩ := h
  refine ⟨α, env, hp, re, rh, ?_⟩
  unfold sPar3 at f
  cases er : fa env hp with
  | no => rw [er] at f; exact f
  | ex e h1 => rw [er] at f; exact fun α1 H1 cls dd x1 rh1 r1 => f α1 H1 σ cls dd x1 rh1 (re.ext x1) r1
  | ok ds h1 =>
    rw [er] at f
    match ds, f with
    | [], f => exact (show False from f).elim
    | [_], f => exact (show False from f).elim
    | [_, _], f => exact (show False from f).elim
    | _ :: _ :: _ :: _ :: _, f => exact (show False from f).elim
    | [d1, d2, d3], f =>
      dsimp only at f
      by_cases hl : (decide (i < env.length) && decide (j < env.length) && decide (l < env.length)) = true
      · rw [if_pos hl] at f
        intro α1 H1 vs x1 rh1 r1
        obtain ⟨v1, v2, v3, rfl, q1, q2, q3⟩ := r1.three
        exact ⟨v1, v2, v3, rfl, f α1 H1 _ x1 rh1 ((((re.ext x1).set q1).set q2).set q3)⟩
      · rw [if_neg hl] at f; exact f.elim
end
/-! ### {k: v, ..} -/
def pairsD : List (Fe × Fe) → En → Hd → Res (List (Key × D))
  | [], _, h => .ok [] h
  | (k, v) :: r, env, h => (k env h).bind fun x h1 => (v env h1).bind fun y h2 => (pairsD r env h2).bind fun ps h3 => match keyD x with
    | some ky => .ok ((ky, y) :: ps) h3
    | none => .no
def mergeD (kvs more : List (Key × D)) : List (Key × D) := more.foldl (fun acc kv => putD acc kv.1 kv.2) kvs
def emptyDic : Option Ob → Bool
  | some (.dic []) => true
  | _ => false
def eDict (prs : List (Fe × Fe)) : Fe := fun env h => (pairsD prs env (h ++ [.dic []])).bind fun ps h1 => if (emptyDic h1[h.length]? && decide (ps.length ≤ 15)) = true then .ok (.ref h.length) (h1.set h.length (.dic (mergeD [] ps))) else .no
@[simp] def eDict0 : Fe := fun _ h => .ok (.ref h.length) (h ++ [.dic []])
section
variable {Tt : List (Addr × Str)} {X : Cx} {R : Rx} {W : WX} {pos : Pos}
def trsD (R : Rx) (W : WX) (prs : List (Fe × Fe)) : List (TE × TE) := prs.map fun p => (tE R W p.1, tE R W p.2)
abbrev DPs (X : Cx) (R : Rx) (W : WX) (pos : Pos) (keys : List (Option Expr)) (values : List Expr) (prs : List (Fe × Fe)) : Prop := PPs X pos keys values (trsD R W prs)
theorem dps_nil : DPs X R W pos [] [] [] := pps_nil
theorem dps_cons {k v : Expr} {ks : List (Option Expr)} {vs : List Expr} {fk fv : Fe} {prs : List (Fe × Fe)} (hk : DE X R W k fk) (hv : DE X R W v fv) (hr : DPs X R W pos ks vs prs) : DPs X R W pos (some k :: ks) (v :: vs) ((fk, fv) :: prs) := pps_cons hk hv hr
def RelPs (R : Rx) (α : List Addr) (H : Hp) (ps : List (Key × D)) (vs : List (V × V)) : Prop := ∃ kvs, vs = kvs.map (fun kv => (kV kv.1, kv.2)) ∧ RelKs R α H ps kvs
theorem pairs_in : ∀ {prs : List (Fe × Fe)} {α : List Addr} {env : En} {h : Hd} {σ : St} {H : Hp} {Q : List (V × V) → Hp → Prop}, RelEnv R α H env σ → RH R α h H → Fin (RelPs R) R W α H σ (pairsD prs env h) Q → tPairs (trsD R W prs) σ H Q
  | [], α, env, h, σ, H, Q, re, rh, f => f α H [] .refl rh ⟨[], rfl, .nil⟩
  | (k, v) :: r, α, env, h, σ, H, Q, re, rh, f => by
    refine ⟨α, env, h, re, rh, (Fin.split f).imp fun x H1 hq => ?_⟩
    obtain ⟨dx, α1, h1, _, x1, rh1, r1, f1⟩ := hq
    refine ⟨α1, env, h1, re.ext x1, rh1, (Fin.split f1).imp fun y H2 hq => ?_⟩
    obtain ⟨dy, α2, h2, _, x2, rh2, r2, f2⟩ := hq
    refine pairs_in ((re.ext x1).ext x2) rh2 ((Fin.split f2).imp fun ps H3 hq => ?_)
    obtain ⟨dps, α3, h3, _, x3, rh3, ⟨kvs, rfl, r3⟩, f3⟩ := hq
    cases e : keyD dx with
    | none => rw [e] at f3; exact (show False from f3).elim
    | some ky =>
      rw [e] at f3
      refine f3 α3 H3 _ .refl rh3 ⟨(ky, y) :: kvs, ?_, .cons (RelD.ext x3 _ _ r2) r3⟩
      rw [List.map_cons, keyD_rel e r1]
theorem RelKs.merge {α : List Addr} {H : Hp} : ∀ {more : List (Key × D)} {ws : List (Key × V)} {kvs : List (Key × D)} {vs : List (Key × V)}, RelKs R α H more ws → RelKs R α H kvs vs → RelKs R α H (mergeD kvs more) (mergeK vs ws)
  | [], ws, kvs, vs, r, q => by rw [r.nil_inv]; exact q
  | (k, d) :: t, ws, kvs, vs, r, q => by
    obtain ⟨v, t', rfl, r1, r2⟩ := r.cons_inv
    show RelKs R α H (mergeD (putD kvs k d) t) (mergeK (putK vs k v) t')
    exact RelKs.merge r2 (q.put r1)
theorem de_dict {keys : List (Option Expr)} {values : List Expr} {prs : List (Fe × Fe)} (h : DPs X R W pos keys values prs) (h0 : keys ≠ [] := by simp) (hall : keys.all (·.isSome) = true := by rfl) (hl : keys.length = values.length := by rfl) (h15 : keys.length ≤ 15 := by decide) :
    DE X R W (.Dict keys values pos) (eDict prs) := by
  refine ⟨fun pins s σ H Q I q => (pe_disp (pos := pos) h hall hl h0 h15).run pins s σ H Q I fun p hp => ?_⟩
  obtain ⟨α, env, hd, re, rh, fi⟩ := q
  have x0 : Ext α H (α ++ [p]) (upd H p (.dK [])) := Ext.new hp
  have rh0 : RH R (α ++ [p]) (hd ++ [.dic []]) (upd H p (.dK [])) := rh.new hp ⟨[], upd_same, .nil⟩
  have ep : (α ++ [p])[hd.length]? = some p := rh.new_at
  refine pairs_in (re.ext x0) rh0 ((Fin.split (Fin.mono (r := (pairsD prs env (hd ++ [.dic []])).bind fun ps h1 => if (emptyDic h1[hd.length]? && decide (ps.length ≤ 15)) = true then Res.ok (D.ref hd.length) (h1.set hd.length (.dic (mergeD [] ps))) else .no) fi x0)).imp fun ps H1 hq => ?_)
  obtain ⟨dps, α1, h1, _, x1, rh1, ⟨kvs, rfl, r1⟩, f1⟩ := hq
  split at f1
  · rename_i hk
    rw [Bool.and_eq_true, decide_eq_true_eq] at hk
    obtain ⟨k1, k2⟩ := hk
    obtain ⟨ob, eo, ro⟩ := rh1.at (x1.get ep)
    rw [eo] at k1
    have e0 : ob = .dic [] := by
      cases ob with
      | dic l => cases l with
        | nil => rfl
        | cons _ _ => cases k1
      | _ => cases k1
    subst e0
    obtain ⟨ws, q, r0⟩ := ro
    rw [r0.nil_inv] at q
    refine ⟨q, kvs, rfl, by rw [← r1.length]; exact k2, ?_⟩
    have x2 : Ext α1 H1 α1 (upd H1 p (.dK (mergeK [] kvs))) := Ext.write (x1.get ep) q trivial
    have rh2 : RH R α1 (h1.set hd.length (.dic (mergeD [] dps))) (upd H1 p (.dK (mergeK [] kvs))) := rh1.write (x1.get ep) q trivial ⟨_, upd_same, RelKs.ext x2 _ _ (r1.merge .nil)⟩
    exact f1 α1 _ _ x2 rh2 (.ref (x1.get ep))
  · exact (show False from f1).elim
theorem de_dict0 : DE X R W (.Dict [] [] pos) eDict0 := by
  refine ⟨fun pins s σ H Q I q => (pe_dnewK (pos := pos)).run pins s σ H Q I fun p hp => ?_⟩
  obtain ⟨α, env, hd, re, rh, fi⟩ := q
  exact fi _ _ _ (Ext.new hp) (rh.new hp ⟨[], upd_same, .nil⟩) (.ref rh.new_at)
end
/-! ### a call of a local that holds a def -/
abbrev Tb := List (Str × (List D → Hd → Res D))
@[simp] def eCallV (i : Nat) (L : Tb) (fa : Fa) : Fe := fun env h => match env[i]? with
  | some (some (.gl x)) => (match L.lookup x with
    | some F => (fa env h).bind F
    | none => .no)
  | _ => .no
def Deeds (Tt : List (Addr × Str)) (X : Cx) (n : Nat) (L : Tb) : Prop := ∀ x F, L.lookup x = some F → ∃ (d : He.DefD) (ps : List Str) (k : Nat) (F0 : List D → Hd → Res D) (gD : List D → List D), FDx X.prog X.w X.K X.mg Tt X.base d ps k F0 ∧ RoomG k X.A ∧ X.mg x = some (.ref (He.fAd X.K d.at_)) ∧
  (∀ fd, FunD X.K d.name d.qual d.params d.body d.scope (d.dvs X.K) (d.kws X.K) (He.fAd X.K d.at_) fd → Bnd X.K fd ps n [] (fun ds _ => gD ds)) ∧ F = fun ds => F0 (gD ds)
section
variable {Tt : List (Addr × Str)} {X : Cx} {W : WX} {pos p : Pos} {x : Str} {e : Expr} {es : List Expr} {fa : Fa} {L : Tb}
theorem deeds_nil {n : Nat} : Deeds Tt X n [] := fun _ _ h => by cases h
theorem deeds_cons {n : Nat} {d : He.DefD} {ps : List Str} {k : Nat} {F0 : List D → Hd → Res D} {gD : List D → List D} (y : Str) (h1 : FDx X.prog X.w X.K X.mg Tt X.base d ps k F0) (h2 : RoomG k X.A) (h3 : X.mg y = some (.ref (He.fAd X.K d.at_)))
    (h4 : ∀ fd, FunD X.K d.name d.qual d.params d.body d.scope (d.dvs X.K) (d.kws X.K) (He.fAd X.K d.at_) fd → Bnd X.K fd ps n [] (fun ds _ => gD ds)) (t : Deeds Tt X n L) : Deeds Tt X n ((y, fun ds => F0 (gD ds)) :: L) := by
  intro z F h
  rw [List.lookup_cons] at h
  by_cases e : z = y
  · subst e
    rw [beq_self_eq_true] at h
    cases h
    exact ⟨d, ps, k, F0, gD, h1, h2, h3, h4, rfl⟩
  · have : (z == y) = false := by simpa using e
    rw [this] at h
    exact t z F h
theorem de_callV (i : Nat) (hD : Deeds Tt X (e :: es).length L) (tk : Takes X W) (ha : DA X (rx X.K X.mg Tt) W (e :: es) fa) (hlen : ∀ env h ds h1, fa env h = .ok ds h1 → ds.length = (e :: es).length) (hN : X.N[i]? = some x := by rfl)
    (hv : Vis X.env.scope x := by first | exact Or.inl rfl | exact Or.inr (Or.inl rfl) | exact Or.inr (Or.inr rfl))
    (hdb : (x == ("__debug__" : Str)) = false := by decide) (hcd : (x == ("__classdict__" : Str)) = false := by decide) (he : starEach (e :: es) X.env = (false, eval e X.env) :: starEach es X.env := by rfl) (hpl : (backTo pos (starEach es X.env)).any (·.1) = false := by rfl) :
    DE X (rx X.K X.mg Tt) W (.Call (.Name x p) (e :: es) [] pos) (eCallV i L fa) := by
  refine ⟨fun pins s σ H Q I h => ?_⟩
  obtain ⟨α, env, hp, re, rh, fi⟩ := h
  have fi : FinE (rx X.K X.mg Tt) W α H σ (match env[i]? with
    | some (some (.gl x)) => (match L.lookup x with
      | some F => (fa env hp).bind F
      | none => .no)
    | _ => .no) Q := fi
  cases e1 : env[i]? with
  | none => rw [e1] at fi; exact fi.elim
  | some od =>
    rw [e1] at fi
    cases od with
    | none => exact (show False from fi).elim
    | some d =>
      cases d with
      | gl y =>
        dsimp only at fi
        cases e2 : L.lookup y with
        | none => rw [e2] at fi; exact (show False from fi).elim
        | some F =>
          rw [e2] at fi
          obtain ⟨d, ps, k, F0, gD, hF, hr, hm, hb, rfl⟩ := hD y F e2
          obtain ⟨v, h1, h2⟩ := re.2 i _ e1
          obtain ⟨a, g1, rfl⟩ := (h2.to fun _ z => nomatch z).gl_inv
          have g1 : X.mg y = some (.ref a) := g1
          rw [hm] at g1
          cases g1
          obtain ⟨fd, FD, Fk⟩ := hF.ex
          refine wpAny_Call_Name_kw (thn ((pe_var (pos := p) hN hv hdb hcd).run pins s σ H (fun v H1 => v = .ref (He.fAd X.K d.at_) ∧ H1 = H) I ⟨.ref _, h1, rfl, rfl⟩) fun u s1 ⟨v, H1, I1, r1, q1⟩ => ?_)
          obtain ⟨rfl, rfl⟩ := q1
          cases r1
          refine PySem.W.callWith_K (h₀ := X.base) I.ok.mod.kin FD.kp (thn (ha.run pos pins s1 σ _ _ I1 ⟨α, env, hp, re, rh, Fin.split (g := fun ds => F0 (gD ds)) fi⟩) fun us s2 ⟨vs, H2, I2, r, q⟩ => ⟨I2.kIn, ?_⟩) he hpl
          obtain ⟨ds, α1, h1', e1', x1, rh1, rd1, f1⟩ := q
          exact run_fd (ws := []) (zs := []) (dz := []) (gD := fun ds _ => gD ds) Fk hr (hb fd FD) tk I2 r .nil (rd1.length.symm.trans (hlen _ _ _ _ e1')) rfl rd1 .nil rh1 f1
      | _ => exact (show False from fi).elim
end
end Mi

set_option Elab.async false
set_option linter.all false
set_option maxRecDepth 100000
set_option maxHeartbeats 1000000
namespace Mi
open PySem PySem.Spec PyProof.Rows L2
/-! ### small things -/
theorem RoomG.u64 {k : Nat} {A : Around} (r : RoomG k A) : A.units + 64 < cLine := by have := r.rm.un; omega
theorem RoomG.u65 {k : Nat} {A : Around} (r : RoomG k A) : A.units + 65 < cLine := by have := r.rm.un; omega
theorem RoomG.u1 {k : Nat} {A : Around} (r : RoomG k A) : A.units + 1 < cLine := by have := r.rm.un; omega
theorem RoomG.u0 {k : Nat} {A : Around} (r : RoomG k A) : A.units < cLine := by have := r.rm.un; omega
theorem takes_W0 {X : Cx} : Takes X W0 := fun _ _ ⟨_, _, _, _, _, _, _, _, _, _, _, _, _, _, _, _, w⟩ => w.elim
theorem al_nil : ∀ (env : En) (h : Hd) (ds : List D) (h1 : Hd), aNil env h = .ok ds h1 → ds.length = 0 := fun _ _ _ _ e => by
  unfold aNil at e
  cases e
  rfl
theorem al_cons {f : Fe} {g : Fa} {n : Nat} (t : ∀ (env : En) (h : Hd) (ds : List D) (h1 : Hd), g env h = .ok ds h1 → ds.length = n) : ∀ (env : En) (h : Hd) (ds : List D) (h1 : Hd), aCons f g env h = .ok ds h1 → ds.length = n + 1 := fun env h ds h1 e => by
  unfold aCons at e
  cases e1 : f env h with
  | no => rw [e1] at e; cases e
  | ex x h2 => rw [e1] at e; cases e
  | ok x h2 =>
    rw [e1] at e
    have e : (g env h2).bind (fun xs h2 => .ok (x :: xs) h2) = .ok ds h1 := e
    cases e2 : g env h2 with
    | no => rw [e2] at e; cases e
    | ex x h3 => rw [e2] at e; cases e
    | ok xs h3 =>
      rw [e2] at e
      cases e
      rw [List.length_cons, t _ _ _ _ e2]
/-! ### how arguments come to parameters -/
def gI (ix : List Nat) {A : Type} (us ws : List A) : List A := ix.filterMap fun i => (us ++ ws)[i]?
theorem gI_len {A : Type} {us ws : List A} : ∀ {ix : List Nat}, (∀ i ∈ ix, i < us.length + ws.length) → (gI ix us ws).length = ix.length
  | [], _ => rfl
  | i :: r, h => by
    have hi : i < (us ++ ws).length := by rw [List.length_append]; exact h i (List.mem_cons_self ..)
    have := gI_len (us := us) (ws := ws) (ix := r) fun j hj => h j (List.mem_cons_of_mem _ hj)
    unfold gI at this ⊢
    rw [List.filterMap_cons, List.getElem?_eq_getElem hi]
    show _ + 1 = _ + 1
    rw [this]
theorem gI_vals {us ws : List Value} {vs zs : List V} (r : Vals vs us) (q : Vals zs ws) : ∀ ix : List Nat, Vals (gI ix vs zs) (gI ix us ws)
  | [] => .nil
  | i :: t => by
    have ih := gI_vals r q t
    have ra := r.append q
    unfold gI at ih ⊢
    rw [List.filterMap_cons, List.filterMap_cons]
    cases e : (vs ++ zs)[i]? with
    | none =>
      have : (us ++ ws)[i]? = none := by
        rw [List.getElem?_eq_none_iff, ← ra.length]
        exact List.getElem?_eq_none_iff.mp e
      rw [this]
      exact ih
    | some v =>
      obtain ⟨u, hu, ru⟩ := ra.get e
      rw [hu]
      exact .cons ru ih
theorem gI_rel {R : Rx} {α : List Addr} {H : Hp} {ds dz : List D} {vs zs : List V} (r : RelDs R α H ds vs) (q : RelDs R α H dz zs) : ∀ ix : List Nat, RelDs R α H (gI ix ds dz) (gI ix vs zs)
  | [] => .nil
  | i :: t => by
    have ih := gI_rel r q t
    have ra := r.append q
    unfold gI at ih ⊢
    rw [List.filterMap_cons, List.filterMap_cons]
    cases e : (ds ++ dz)[i]? with
    | none =>
      have : (vs ++ zs)[i]? = none := by
        rw [List.getElem?_eq_none_iff, ← ra.length]
        exact List.getElem?_eq_none_iff.mp e
      rw [this]
      exact ih
    | some v =>
      obtain ⟨u, hu, ru⟩ := ra.get e
      rw [hu]
      exact .cons ru ih
section
variable {K : PySem.W.Frag} {x qual : Str} {params : Arguments} {body : List Stmt} {scope : Scope} {kws : List (Str × V)} {f : Addr} {fd : FuncData} {ps : List Str}
theorem bnd_pos {dvs : List V} (F : FunD K x qual params body scope dvs kws f fd) (hd : dvs = []) 
    (h : ∀ (kV doc pm : Value) (an : Option Addr) (cdv ct : Value) (us : List Value), us.length = ps.length → bindArgs (PySem.W.fnOf x qual params body scope .none kV doc pm an cdv ct) ⟨us, []⟩ = pure (ps.zip us)) (n : Nat) (hn : n = ps.length) : Bnd K fd ps n [] (fun ds _ => ds) := by
  subst hd hn
  have b := F.bindsN h
  refine ⟨fun us _ => us, fun vs _ => vs, ⟨fun s us ws X l1 l2 => ?_, fun r _ => r⟩, fun vs zs l1 _ => l1, fun R α H ds vs ws zs r _ => r⟩
  have := b s us X (by rw [List.append_nil]; exact l1)
  rw [List.append_nil] at this
  exact this
theorem bnd_kw {dvs : List V} (F : FunD K x qual params body scope dvs kws f fd) (hd : dvs = []) (n : Nat) (ks : List Str) (ix : List Nat) (hl : ix.length = ps.length) (hi : ∀ i ∈ ix, i < n + ks.length)
    (h : ∀ (kV doc pm : Value) (an : Option Addr) (cdv ct : Value) (us ws : List Value), us.length = n → ws.length = ks.length → bindArgs (PySem.W.fnOf x qual params body scope .none kV doc pm an cdv ct) ⟨us, ks.zip ws⟩ = pure (ps.zip (gI ix us ws))) : Bnd K fd ps n ks (fun ds ws => gI ix ds ws) := by
  subst hd
  obtain ⟨oc, od, dV, kV, doc, pm, an, cdv, ct, osl, rfl, lk, hcd, hD, hK⟩ := F.ex
  rcases hD with ⟨_, rfl⟩ | ⟨e, _⟩
  · refine ⟨fun us ws => gI ix us ws, fun vs zs => gI ix vs zs, ⟨fun s us ws X l1 l2 => .of_eq (h kV doc pm an cdv ct us ws l1 l2), fun r q => gI_vals r q ix⟩, fun vs zs l1 l2 => ?_, fun R α H ds vs ws zs r q => gI_rel r q ix⟩
    rw [gI_len (fun i hx => by rw [l1, l2]; exact hi i hx), hl]
  · exact absurd rfl e
end
/-! ### the end -/
theorem law_callG {P : Program} {w : World} {K : PySem.W.Frag} {mg mb : Str → Option Value} {CX : CXT} {k : Nat} {fa a : Addr} {fd : FuncData} {x : Str} {sp : Sp} {s₁ : Shared} {vs : List Value} {ns : List Int}
    (KX : K.In s₁.heap) (hns : s₁.heap.Ns mainGlobals mg) (hb : s₁.heap.Ns builtinsNs mb) (hbb : ∀ x : Str, x ≠ "__name__" → mb x = bootBuiltins x) (hlim : s₁.heap.NoLimit) (hg : s₁.gens = #[])
    (ha : s₁.heap.get? a = some { cls := .type "list", data := .seq vs.toArray }) (hi : IntsAre vs ns) (hl : ns.length ≤ sizeLine) (hr : RoomG k callerA)
    (F : ∀ base : Heap, K.In base → base.Ns mainGlobals mg → FnG P w K mg base CX k fa fd [x] sp) (hbind : ∀ (s : Shared) (u : Value), BindsTo s fd ⟨[u], []⟩ [(x, u)])
    (hsp : ∀ H : Hp, Only H → (∃ ob, H a = some (.frz ob (.lst (ns.map V.int)))) ∨ K.lookup a ≠ none → SqL K H a (ns.map V.int) → sp [.ref a] H (fun v _ => v = .bl true) fun _ _ _ => False) (hKa : K.lookup a = none ∨ True)
    (hCX : ∀ H e s', CX [] H s₁ (fun _ _ _ => False) e s' → False) :
    codeAny (model P w) callerA (.call (.ref fa) ⟨[.ref a], []⟩) (fun r s' => r = .ok (.ret (.bool true)) ∧ OldK s₁.heap s'.heap ∧ s'.os = s₁.os ∧ AllBare s'.gens) s₁ := by
  have rv := vals_ints hi
  have lenV := hi.length
  have core : ∀ H : Hp, Only H → (∃ ob, H a = some (.frz ob (.lst (ns.map V.int)))) ∨ K.lookup a ≠ none → SqL K H a (ns.map V.int) → HOk P w H s₁.heap → (∀ b, H b ≠ none → b = a) → (H a ≠ none → K.lookup a = none) →
      codeAny (model P w) callerA (.call (.ref fa) ⟨[.ref a], []⟩) (fun r s' => r = .ok (.ret (.bool true)) ∧ OldK s₁.heap s'.heap ∧ s'.os = s₁.os ∧ AllBare s'.gens) s₁ := by
    intro H hO hz hS hok hA hK
    have base_of : ∀ {b : Addr} {o : Obj}, s₁.heap.get? b = some o → H b = none → (hidT s₁.heap H).get? b = some o := fun e n => hidT_get e n
    have noA : ∀ {b : Addr} {o : Obj} {es : Array DictEntry} {ep : Nat}, s₁.heap.get? b = some o → o.data = .dict es ep → H b = none := fun {b o es ep} e d => by
      cases q : H b with
      | none => rfl
      | some u =>
        have e' : b = a := hA b (by rw [q]; simp)
        subst e'
        rw [ha] at e; cases e
        have d' : Data.seq vs.toArray _ = Data.dict es ep := d
        cases d'
    have nsK : ∀ {b : Addr} {m : Str → Option Value}, s₁.heap.Ns b m → (hidT s₁.heap H).Ns b m := fun {b m} ⟨o, es, ep, e, d, r⟩ => ⟨o, es, ep, base_of e (noA e d), d, r⟩
    have hKb : K.In (hidT s₁.heap H) := fun b o e => base_of (KX b o e) (by
      cases q : H b with
      | none => rfl
      | some u =>
        have e' : b = a := hA b (by rw [q]; simp)
        subst e'
        rw [hK (by rw [q]; simp)] at e; cases e)
    have hM : Mod K mg (hidT s₁.heap H) := ⟨hKb, nsK hns, ⟨mb, nsK hb, hbb⟩, let ⟨mc, h1, h2⟩ := hlim; ⟨mc, nsK h1, h2⟩⟩
    have e0 : Env0 P w K mg (hidT s₁.heap H) callerA [] s₁ H := ⟨rfl, hM, fun b o e => of_hidT e, Nat.le_of_eq (hidT_size _ _), trivial, fun b hb => absurd (show b ∈ ([] : List Addr) from hb) (by simp), hok, .of_eq hg⟩
    refine codeAny_mono ((F _ hKb (nsK hns)).run callerA [] s₁ H ⟨[.ref a], []⟩ [.ref a] [.ref a] _ _ hr e0 (hbind s₁ (.ref a)) (.cons rfl .nil) (hsp H hO hz hS)) fun r s' h => ?_
    cases r with
    | error e => exact (hCX H e s' h).elim
    | ok fl =>
      cases fl with
      | next => exact False.elim h
      | brk => exact False.elim h
      | cont => exact False.elim h
      | ret u =>
        obtain ⟨v, H', os, bare, un, hok', r', q⟩ := h
        have q' : v = .bl true := q
        subst q'
        obtain rfl : u = Value.bool true := r'
        refine ⟨rfl, OldK.of_keep fun b o e => ?_, os, bare⟩
        cases q : H b with
        | none => exact un.keep b o e q (by intro z; exact absurd (show b ∈ ([] : List Addr) from z) (by simp)) (by simp)
        | some u =>
          rcases hO b with z | ⟨ob, xs, z⟩
          · rw [q] at z; cases z
          · have z2 := un.frzs b ob _ z
            obtain ⟨e1, _⟩ := hok b _ z
            obtain ⟨e2, _⟩ := hok' b _ z2
            rw [e] at e1; cases e1
            exact e2
  cases hk : K.lookup a with
  | some o =>
    have e := KX a o hk
    rw [ha] at e
    cases e
    refine core (fun _ => none) (fun _ => .inl rfl) (.inr (by rw [hk]; exact fun z => nomatch z)) (.inr ⟨_, vs.toArray, _, hk, rfl, rfl, rfl, by rw [List.size_toArray, lenV]; exact hl, by simpa using rv⟩) (fun b u z => by have z' : (none : Option HO) = some u := z; cases z') (fun b z => absurd rfl z) fun z => absurd rfl z
  | none =>
    refine core (fun b => if b = a then some (.frz { cls := .type "list", data := .seq vs.toArray } (.lst (ns.map V.int))) else none) (fun b => ?_) (.inl ⟨{ cls := .type "list", data := .seq vs.toArray }, if_pos rfl⟩) (.inl (.inr ⟨{ cls := .type "list", data := .seq vs.toArray }, if_pos rfl⟩)) (fun b u z => ?_) (fun b z => ?_) fun _ => hk
    · by_cases hb : b = a
      · exact .inr ⟨_, _, if_pos hb⟩
      · exact .inl (if_neg hb)
    · by_cases hb : b = a
      · have z' := (if_pos hb).symm.trans z
        cases z'
        subst hb
        exact ⟨ha, by rw [List.length_map]; exact hl, vs, _, rv, ha⟩
      · have z' := (if_neg hb).symm.trans z
        cases z'
    · by_cases hb : b = a
      · exact hb
      · exact absurd (if_neg hb) z
end Mi

set_option Elab.async false
set_option linter.all false
set_option maxRecDepth 100000
set_option maxHeartbeats 1000000
namespace Mi
open PySem PySem.Spec PyProof.Rows L2
open PySem.W (Frag)
/-! ### the hook -/
def isLst (o : Obj) : Bool := match o.cls with
  | .type n => n == "list"
  | _ => false
def asM (g : Addr → Option Obj) : Nat → List Addr
  | 0 => [mainGlobals, cStatics]
  | n + 1 => He.growD g (asM g n)
def frM (g : Addr → Option Obj) (n : Nat) : Frag := (He.frG g (asM g n)).filter fun p => !(isLst p.2)
theorem frG_mem {g : Addr → Option Obj} {p : Addr × Obj} {as : List Addr} (h : p ∈ He.frG g as) : g p.1 = some p.2 := by
  unfold He.frG at h
  obtain ⟨a, _, e⟩ := List.mem_filterMap.mp h
  obtain ⟨o, e1, e2⟩ := Option.map_eq_some_iff.mp e
  subst e2
  exact e1
theorem lookup_mem {α β : Type} [BEq α] [LawfulBEq α] {a : α} {b : β} : ∀ {l : List (α × β)}, l.lookup a = some b → (a, b) ∈ l
  | [], h => by cases h
  | (c, d) :: l, h => by
    rw [List.lookup_cons] at h
    by_cases e : (a == c) = true
    · rw [e] at h
      cases h
      rw [eq_of_beq e]
      exact List.mem_cons_self ..
    · rw [Bool.not_eq_true] at e
      rw [e] at h
      exact List.mem_cons_of_mem _ (lookup_mem h)
theorem frM_in {h : Heap} {n : Nat} : (frM h.get? n).In h := fun a o e => by
  have := lookup_mem e
  unfold frM at this
  exact frG_mem (p := (a, o)) (List.mem_filter.mp this).1
theorem frM_no {g : Addr → Option Obj} {n : Nat} {p : Addr × Obj} (h : p ∈ frM g n) : isLst p.2 = false := by
  unfold frM at h
  simpa using (List.mem_filter.mp h).2
def obsK (fs : List (Frag → Bool)) (fn : List He.DefD) (K : Frag) : He.AlD := ((fs.all fun f => f K) && fn.all fun d => d.ok K, fn.map fun d => He.fnW K d.at_)
def obsM (n : Nat) (fs : List (Frag → Bool)) (fn : List He.DefD) (g : Addr → Option Obj) : He.AlD := obsK fs fn (frM g n)
def hookM (n : Nat) (fs : List (Frag → Bool)) (fn : List He.DefD) : PySem.W.Hook where
  α := He.AlD
  obs := fun s => obsM n fs fn s.heap.get?
  val := fun _ => He.valD fn
  says := fun _ h => ∃ K : Frag, K.In h ∧ (∀ p ∈ K, isLst p.2 = false) ∧ obsK fs fn K = He.valD fn
  of := fun _ _ e => ⟨_, frM_in, fun _ h => frM_no h, e⟩
  keeps := fun _ _ _ ⟨K, hK, hn, c⟩ k => ⟨K, PySem.W.Frag.In.keeps hK k, hn, c⟩
theorem obsM_eq {n : Nat} {fs : List (Frag → Bool)} {fn : List He.DefD} {g : Addr → Option Obj} {s : Shared} (h : ∀ a, g a = s.heap.get? a) : obsM n fs fn g = (hookM n fs fn).obs s := by
  have e : g = s.heap.get? := funext h
  rw [e] <;> rfl
section
variable {fs : List (Frag → Bool)} {fn : List He.DefD} {K : Frag}
theorem saysD (c : obsK fs fn K = He.valD fn) : He.SaysD [] fn K := by
  have c1 : ((fs.all fun f => f K) && fn.all fun d => d.ok K) = true := congrArg (fun z : He.AlD => z.1) c
  have c2 : fn.map (fun d => He.fnW K d.at_) = fn.map He.DefD.val := congrArg (fun z : He.AlD => z.2) c
  show (((([] : List He.Fa).all fun f => f.ok K) && fn.all fun d => d.ok K), fn.map fun d => He.fnW K d.at_) = (true, fn.map He.DefD.val)
  rw [c2, (He.ba c1).2]
  rfl
theorem fact (c : obsK fs fn K = He.valD fn) (i : Nat) {f : Frag → Bool} (h : fs[i]? = some f := by rfl) : f K = true := by
  have c1 : ((fs.all fun f => f K) && fn.all fun d => d.ok K) = true := congrArg (fun z : He.AlD => z.1) c
  exact List.all_eq_true.mp (He.ba c1).1 f (List.mem_of_getElem? h)
theorem def_ (c : obsK fs fn K = He.valD fn) (i : Nat) {d : He.DefD} (h : fn[i]? = some d := by rfl) : ∃ fd, FunD K d.name d.qual d.params d.body d.scope (d.dvs K) (d.kws K) (He.fAd K d.at_) fd := (saysD c).def_ i h
end
/-! ### an own exception class, by facts -/
def valB (initId : String) : Option PySem.W.CFound → Bool
  | some (.val (.builtin s)) => s == initId
  | _ => false
/-- own: the base as the text names it is an own class -/
def baseB (K : Frag) (own : Bool) (b : Str) (T initId : String) : Bool :=
  if own = true then He.eqO (PySem.W.nsIn K mainGlobals b) (some (some (.ref (He.ga K b)))) && (He.eqO (PySem.W.specialIn K (.ref (He.ga K b)) "__getattribute__") (some (some (.builtin "type.__getattribute__"))) && (PySem.W.readsIn K (He.ga K b) (.type "type") && valB initId (PySem.W.findCls K (.ref (He.ga K b)) (.type "type") "__init__")))
  else He.eqO (PySem.W.nsIn K mainGlobals b) (some none) && valB initId (PySem.W.findCls K (.type T) (.type "type") "__init__")
def xcB (c f b : Str) (own : Bool) (T newId initId : String) (bm : List Value) (K : Frag) : Bool :=
  He.eqO (PySem.W.nsIn K mainGlobals c) (some (some (.ref (He.ga K c)))) && (PySem.W.excInitIn K (He.ga K c) bm newId && (PySem.W.hasDictIn K (He.ga K c) && (He.eqO (PySem.W.findIn K (.ref (He.ga K c)) "__setattr__") (some (some (.builtin "object.__setattr__"))) &&
  (He.eqO (PySem.W.findIn K (.ref (He.ga K c)) "__getattribute__") (some (some (.builtin "BaseException.__getattribute__"))) && (He.eqO (PySem.W.findIn K (.ref (He.ga K c)) "__getattr__") (some none) && (He.eqO (PySem.W.findIn K (.ref (He.ga K c)) f) (some none) &&
  (He.eqO (PySem.W.findIn K (.ref (He.ga K c)) "__init__") (some (some (.ref (He.ma K (He.ga K c) "__init__")))) && (decide (PySem.W.typeIn K (.ref (He.ma K (He.ga K c) "__init__")) = some (.type "function")) && (PySem.W.keepIn K (.ref (He.ga K c)) &&
  (decide (PySem.W.subIn K (.ref (He.ga K c)) (.type "BaseException") = some true) && (decide (PySem.W.typeIn K (.ref (He.ga K c)) = some (.type "type")) && baseB K own b T initId)))))))))))
theorem valB_ok {initId : String} {o : Option PySem.W.CFound} (h : valB initId o = true) : o = some (.val (.builtin initId)) := by
  unfold valB at h
  split at h
  · rw [beq_iff_eq] at h; rw [h]
  · cases h
theorem base_ok {K : Frag} {h : Heap} {mg : Str → Option Value} (X : K.In h) (G : h.Ns mainGlobals mg) {own : Bool} {b : Str} {T initId : String} (hb : baseB K own b T initId = true) (hT : own = false → bootBuiltins b = some (.type T) ∧ b ≠ "__name__" ∧ typeOf (.type T) = pure (.type "type") ∧ Manifest.isStub T = false) : MiX.BaseOk K mg b initId := by
  unfold baseB at hb
  cases own with
  | true =>
    rw [if_pos rfl] at hb
    obtain ⟨h1, hb⟩ := He.ba hb
    obtain ⟨h2, hb⟩ := He.ba hb
    obtain ⟨h3, h4⟩ := He.ba hb
    exact .inl ⟨_, PySem.W.mg_of X G (He.eqO_ok h1), He.eqO_ok h2, h3, valB_ok h4⟩
  | false =>
    rw [if_neg (by decide)] at hb
    obtain ⟨h1, h2⟩ := He.ba hb
    obtain ⟨t1, t2, t3, t4⟩ := hT rfl
    exact .inr ⟨T, PySem.W.mg_none_of X G (He.eqO_ok h1), t1, t2, t3, t4, valB_ok h2⟩
theorem xc_ok {K : Frag} {h : Heap} {mg : Str → Option Value} (X : K.In h) (G : h.Ns mainGlobals mg) {c f b : Str} {own : Bool} {T newId initId : String} {bm : List Value} (q : xcB c f b own T newId initId bm K = true)
    (hT : own = false → bootBuiltins b = some (.type T) ∧ b ≠ "__name__" ∧ typeOf (.type T) = pure (.type "type") ∧ Manifest.isStub T = false)
    (d1 : (f == ("__debug__" : Str)) = false) (d2 : f ≠ "self") (d3 : (b == ("__debug__" : Str)) = false) (d4 : b ≠ "self") (d5 : b ≠ f)
    {qual msg : Str} {dfl : List Expr} {j : Nat} {p1 p2 q1 q2 q3 q4 q5 q6 r1 r2 r3 r4 : Pos} {dvs : List V} (FD : ∃ fd, FunD K "__init__" qual (MiX.iA f dfl p1 p2) (MiX.iB f b msg j q1 q2 q3 q4 q5 q6 r1 r2 r3 r4) (MiX.iS f b) dvs [] (He.ma K (He.ga K c) "__init__") fd) (hdv : dvs = [V.non])
    (hcall : ∀ env : PySem.Env, ∃ pl, eval (.Call (.Attribute (.Name b q1) "__init__" q2) [.Name "self" q3, .Constant (.str msg) j q4] [] q5) env = (do
      let ov ← eval (.Name b q1) env
      standAt q2.atName
      let (f, first) ← holding [ov] (getMethod ov "__init__" pl)
      callWith q5 f first (backTo q5 (starEach [.Name "self" q3, .Constant (.str msg) j q4] env)) (backToKw q5 (keywordEach [] env)))) 
    (hbind : ∀ (T : Addr) (kV doc pm : Value) (an : Option Addr) (cdv ct : Value) (us its : List Value), us.length = 2 → its.length = 1 →
      ∃ k, bindArgs (PySem.W.fnOf "__init__" qual (MiX.iA f dfl p1 p2) (MiX.iB f b msg j q1 q2 q3 q4 q5 q6 r1 r2 r3 r4) (MiX.iS f b) (.ref T) kV doc pm an cdv ct) ⟨us, []⟩ = seqItems? (.ref T) >>= k ∧ k (some its.toArray) = pure ((["self", f] : List Str).zip (us ++ its.drop 1))) :
    MiX.XcTxt K mg c f b (He.ga K c) (He.ma K (He.ga K c) "__init__") newId initId bm := by
  unfold xcB at q
  obtain ⟨a1, q⟩ := He.ba q
  obtain ⟨a2, q⟩ := He.ba q
  obtain ⟨a3, q⟩ := He.ba q
  obtain ⟨a4, q⟩ := He.ba q
  obtain ⟨a5, q⟩ := He.ba q
  obtain ⟨a6, q⟩ := He.ba q
  obtain ⟨a7, q⟩ := He.ba q
  obtain ⟨a8, q⟩ := He.ba q
  obtain ⟨a9, q⟩ := He.ba q
  obtain ⟨a10, q⟩ := He.ba q
  obtain ⟨a11, q⟩ := He.ba q
  obtain ⟨a12, q⟩ := He.ba q
  obtain ⟨fd, FD⟩ := FD
  subst hdv
  obtain ⟨ds, v1, v2⟩ := FD.binds1 (ps := ["self", f]) 2 1 (by simp) rfl (fun T kV doc pm an cdv ct us its l1 l2 => hbind T kV doc pm an cdv ct us its l1 l2)
  refine { gC := PySem.W.mg_of X G (He.eqO_ok a1), ei := a2, hd := a3, sa := He.eqO_ok a4, ga := He.eqO_ok a5, gg := He.eqO_ok a6, noN := He.eqO_ok a7, iC := He.eqO_ok a8, tC := of_decide_eq_true a9, kC := a10, exC := of_decide_eq_true a11, tyC := of_decide_eq_true a12, fd_ := d1, fs_ := d2, bd_ := d3, bs_ := d4, bf_ := d5, base := base_ok X G q hT, fn := ?_ }
  refine ⟨qual, msg, dfl, j, p1, p2, q1, q2, q3, q4, q5, q6, r1, r2, r3, r4, _, fd, FD, hcall, fun us hl s KX => ?_⟩
  have e0 : ds = [] := by cases v1; rfl
  subst e0
  have := v2 s us KX (by rw [List.append_nil]; exact hl)
  rw [List.append_nil] at this
  exact this
/-! ### the law's end -/
theorem walk_ofG {l : PySem.W.OpenLaw} {n k : Nat} {q : Program} {loose : List Str} {XP : (Str → Option Value) → Heap → Prop} {fs : List (Frag → Bool)} {fn : List He.DefD} {m : Nat} {d : DefRec} {x : Str}
    (hn : l.most = some n) (hn2 : n ≤ sizeLine) (hdf : d.params.defaults = []) (hr : RoomG k callerA)
    (F : ∀ (w : World) (mg : Str → Option Value) (fa : Addr) (h : Heap) (K : Frag), K.In h → obsK fs fn K = He.valD fn → h.Ns mainGlobals mg → mg d.name = some (.ref fa) →
      ∃ (fd : FuncData) (F0 : List D → Hd → Res D), (∀ (s : Shared) (u : Value), BindsTo s fd ⟨[u], []⟩ [(x, u)]) ∧
        (∀ ns : List Int, ns.length ≤ n → (∀ z ∈ ns, Builtin.Int.intBits z ≤ 1048576) → ∃ h', F0 [.ref 0] [.fro (ns.map .int)] = .ok (.bl true) h') ∧
        ∀ base : Heap, K.In base → base.Ns mainGlobals mg → FnG l.prog w K mg base (L2.CX l.prog w) k fa fd [x] (spD (rx K mg []) 1 F0)) :
    PySem.W.WalkO q loose XP (hookM m fs fn).says l.row.toRowW d [] (fun f vs => PySem.call f vs) := by
  refine Att.attach_callB hn hdf fun w s₀ s₁ mg mb fa o pm cd doc a vs ns G Y ho hd hcd hmg hobj hints hlen hbits hg => ?_
  obtain ⟨K, KX, hnl, c⟩ := Y
  obtain ⟨fd, F0, hb, hmath, hF⟩ := F w mg fa _ K KX c G.T.g hmg
  have hk : K.lookup a = none := by
    cases e : K.lookup a with
    | none => rfl
    | some o =>
      have e2 := KX a o e
      rw [hobj] at e2
      cases e2
      have z : isLst ({ cls := .type "list", data := .seq vs.toArray } : Obj) = false := hnl _ (lookup_mem e)
      have z2 : isLst ({ cls := .type "list", data := .seq vs.toArray } : Obj) = true := by show ("list" == "list") = true; rfl
      rw [z2] at z
      cases z
  refine law_callG KX G.T.g G.T.b G.T.builtins G.T.nolimit hg hobj hints (Nat.le_trans hlen hn2) hr hF hb (fun H hO hz hS => ?_) (.inl hk) fun H e s' hx => ?_
  · rcases hz with ⟨ob, hz⟩ | hz
    · obtain ⟨h', hm⟩ := hmath ns hlen hbits
      refine ⟨rfl, [a], [.ref 0], [.fro (ns.map .int)], .cons (.ref rfl) .nil, ⟨rfl, by simp, fun i o e => ?_, (fun p hp => by cases hp), trivial⟩, ?_⟩
      · cases i with
        | zero => cases e; exact ⟨a, rfl, ns.map .int, ob, hz, rel_ints ns⟩
        | succ i => simp at e
      · rw [hm]
        exact fun α' H' v x rh r => r.bl_inv
    · exact absurd hk hz
  · obtain ⟨_, _, _, _, _, _, _, _, _, _, _, _, z⟩ := hx
    exact z
end Mi

set_option Elab.async false
set_option linter.all false
set_option maxRecDepth 100000
set_option maxHeartbeats 1000000
namespace Mi
open PySem PySem.Spec PyProof.Rows L2
/-! ### the heap -/
section
variable {A : Type} {h l : List A} {x : A}
@[simp] theorem app_at0 : (h ++ l)[h.length]? = l[0]? := by rw [List.getElem?_append_right (Nat.le_refl _), Nat.sub_self]
@[simp] theorem app_at {k : Nat} : (h ++ l)[h.length + k]? = l[k]? := by rw [List.getElem?_append_right (Nat.le_add_right _ _), Nat.add_sub_cancel_left]
@[simp] theorem app_set0 : (h ++ l).set h.length x = h ++ l.set 0 x := by rw [List.set_append_right _ _ (Nat.le_refl _), Nat.sub_self]
@[simp] theorem app_set {k : Nat} : (h ++ l).set (h.length + k) x = h ++ l.set k x := by rw [List.set_append_right _ _ (Nat.le_add_right _ _), Nat.add_sub_cancel_left]
theorem app_old {n : Nat} {o : A} (e : h[n]? = some o) : (h ++ l)[n]? = some o := by
  rw [List.getElem?_append_left (List.getElem?_eq_some_iff.mp e).1]
  exact e
end
/-- nothing old is touched but what stands in S -/
structure Kp (S : List Nat) (h h' : Hd) : Prop where
  len : h.length ≤ h'.length
  at_ : ∀ i o, i ∉ S → h[i]? = some o → h'[i]? = some o
theorem Kp.refl {S : List Nat} {h : Hd} : Kp S h h := ⟨Nat.le_refl _, fun _ _ _ e => e⟩
theorem Kp.trans {S : List Nat} {h h1 h2 : Hd} (a : Kp S h h1) (b : Kp S h1 h2) : Kp S h h2 := ⟨Nat.le_trans a.len b.len, fun i o hi e => b.at_ i o hi (a.at_ i o hi e)⟩
theorem Kp.app {S : List Nat} {h g : Hd} : Kp S h (h ++ g) := ⟨by rw [List.length_append]; exact Nat.le_add_right _ _, fun i o _ e => app_old e⟩
theorem Kp.mono {S T : List Nat} {h h' : Hd} (a : Kp S h h') (st : ∀ i ∈ S, i ∈ T) : Kp T h h' := ⟨a.len, fun i o hi => a.at_ i o fun z => hi (st i z)⟩
theorem Kp.any {T : List Nat} {h h' : Hd} (a : Kp [] h h') : Kp T h h' := a.mono fun _ z => by cases z
theorem Kp.set {S : List Nat} {h : Hd} {n : Nat} {o : Ob} (hn : n ∈ S) : Kp S h (h.set n o) := ⟨by rw [List.length_set]; exact Nat.le_refl _, fun i u hi e => by
  rw [List.getElem?_set_ne (show n ≠ i from fun z => hi (z ▸ hn))]
  exact e⟩
/-- a fresh object may be written -/
theorem Kp.setNew {S : List Nat} {h0 h : Hd} {n : Nat} {o : Ob} (a : Kp S h0 h) (hn : h0.length ≤ n) : Kp S h0 (h.set n o) := ⟨by rw [List.length_set]; exact a.len, fun i u hi e => by
  have := (List.getElem?_eq_some_iff.mp e).1
  rw [List.getElem?_set_ne (by omega)]
  exact a.at_ i u hi e⟩
/-! ### loops -/
def stepS (tg : Fg) (body : Fs) (d : D) (env : En) (h : Hd) : SRes := match tg d env h with
  | none => .no
  | some (env1, h1) => (match body env1 h1 with
    | .ct env2 h2 => .nx env2 h2
    | r => r)
theorem forL_step {src : Src} {tg : Fg} {body : Fs} {m i : Nat} {env env' : En} {h h' : Hd} {d : D} (e : src h i = .item d) (s : stepS tg body d env h = .nx env' h') : forL src tg body (m + 1) i env h = forL src tg body m (i + 1) env' h' := by
  unfold stepS at s
  show (match src h i with
    | .stop => SRes.nx env h
    | .bad => .no
    | .item d => (match tg d env h with
      | none => .no
      | some (env1, h1) => (match body env1 h1 with
        | .nx env2 h2 => forL src tg body m (i + 1) env2 h2
        | .ct env2 h2 => forL src tg body m (i + 1) env2 h2
        | .bk env2 h2 => .nx env2 h2
        | r => r))) = _
  rw [e]
  dsimp only
  cases e1 : tg d env h with
  | none => rw [e1] at s; cases s
  | some p =>
    obtain ⟨env1, h1⟩ := p
    rw [e1] at s
    dsimp only at s ⊢
    cases e2 : body env1 h1 <;> rw [e2] at s <;> cases s <;> rfl
theorem forL_stop {src : Src} {tg : Fg} {body : Fs} {m i : Nat} {env : En} {h : Hd} (e : src h i = .stop) : forL src tg body (m + 1) i env h = .nx env h := by
  show (match src h i with
    | .stop => SRes.nx env h
    | .bad => .no
    | .item d => (match tg d env h with
      | none => .no
      | some (env1, h1) => (match body env1 h1 with
        | .nx env2 h2 => forL src tg body m (i + 1) env2 h2
        | .ct env2 h2 => forL src tg body m (i + 1) env2 h2
        | .bk env2 h2 => .nx env2 h2
        | r => r))) = _
  rw [e]
theorem for_go {src : Src} {tg : Fg} {body : Fs} (n : Nat) (it : Nat → D) (P : Nat → En → Hd → Prop) (hs : ∀ i env h, i < n → P i env h → src h i = .item (it i) ∧ ∃ env' h', stepS tg body (it i) env h = .nx env' h' ∧ P (i + 1) env' h')
    (he : ∀ env h, P n env h → src h n = .stop) : ∀ (k i m : Nat) (env : En) (h : Hd), i + k = n → k < m → P i env h → ∃ env' h', forL src tg body m i env h = .nx env' h' ∧ P n env' h'
  | 0, i, m + 1, env, h, e, _, p => by
    have : i = n := by omega
    subst this
    exact ⟨env, h, forL_stop (he env h p), p⟩
  | k + 1, i, m + 1, env, h, e, hm, p => by
    obtain ⟨a, env', h', b, c⟩ := hs i env h (by omega) p
    rw [forL_step a b]
    exact for_go n it P hs he k (i + 1) m env' h' (by omega) (by omega) c
  | 0, _, 0, _, _, _, hm, _ => absurd hm (Nat.not_lt_zero _)
  | _ + 1, _, 0, _, _, _, hm, _ => absurd hm (Nat.not_lt_zero _)
theorem for_inv {src : Src} {tg : Fg} {body : Fs} {env : En} {h : Hd} (n : Nat) (it : Nat → D) (P : Nat → En → Hd → Prop) (h0 : P 0 env h) (hs : ∀ i env h, i < n → P i env h → src h i = .item (it i) ∧ ∃ env' h', stepS tg body (it i) env h = .nx env' h' ∧ P (i + 1) env' h')
    (he : ∀ env h, P n env h → src h n = .stop) (hn : n < most) : ∃ env' h', forL src tg body most 0 env h = .nx env' h' ∧ P n env' h' := for_go n it P hs he n 0 most env h (by omega) hn h0
/-! ### comprehensions -/
theorem lcL_step {src : Src} {tg : Fg} {tst : Ft} {el : Fe} {env env1 : En} {k m i : Nat} {h h1 h2 h3 : Hd} {d y : D} {acc : List D} (e : src h i = .item d) (g : tg d env h = some (env1, h1)) (t : tst env1 h1 = .ok true h2) (y_ : el env1 h2 = .ok y h3) (a : h3[k]? = some (.lst acc)) (hl : acc.length < 16777216) :
    lcL src tg tst el env k (m + 1) i h = lcL src tg tst el env k m (i + 1) (h3.set k (.lst (acc ++ [y]))) := by
  rw [lcL]
  rw [e]
  dsimp only
  rw [g]
  dsimp only
  rw [t]
  dsimp only
  rw [y_]
  dsimp only
  rw [a]
  dsimp only
  rw [if_pos hl]
theorem lcL_skip {src : Src} {tg : Fg} {tst : Ft} {el : Fe} {env env1 : En} {k m i : Nat} {h h1 h2 : Hd} {d : D} (e : src h i = .item d) (g : tg d env h = some (env1, h1)) (t : tst env1 h1 = .ok false h2) :
    lcL src tg tst el env k (m + 1) i h = lcL src tg tst el env k m (i + 1) h2 := by
  rw [lcL]
  rw [e]
  dsimp only
  rw [g]
  dsimp only
  rw [t]
theorem lcL_stop {src : Src} {tg : Fg} {tst : Ft} {el : Fe} {env : En} {k m i : Nat} {h : Hd} (e : src h i = .stop) : lcL src tg tst el env k (m + 1) i h = .ok (.ref k) h := by
  rw [lcL]
  rw [e]
/-- one turn: what it does with the heap, what it adds -/
def turnC (tg : Fg) (tst : Ft) (el : Fe) (env : En) (d : D) (h : Hd) : Res (List D) := match tg d env h with
  | none => .no
  | some (env1, h1) => (match tst env1 h1 with
    | .ok false h2 => .ok [] h2
    | .ok true h2 => (match el env1 h2 with
      | .ok y h3 => .ok [y] h3
      | _ => .no)
    | _ => .no)
theorem lc_go {src : Src} {tg : Fg} {tst : Ft} {el : Fe} {env : En} {k : Nat} (n : Nat) (it : Nat → D) (P : Nat → Hd → List D → Prop) (hs : ∀ i h acc, i < n → P i h acc → h[k]? = some (.lst acc) → src h i = .item (it i) ∧ ∃ ys h', turnC tg tst el env (it i) h = .ok ys h' ∧ h'[k]? = some (.lst acc) ∧ P (i + 1) (h'.set k (.lst (acc ++ ys))) (acc ++ ys))
    (he : ∀ h acc, P n h acc → h[k]? = some (.lst acc) → src h n = .stop) (hb : n ≤ 16777216) : ∀ (r i m : Nat) (h : Hd) (acc : List D), i + r = n → r < m → acc.length ≤ i → h[k]? = some (.lst acc) → P i h acc → ∃ h' acc', lcL src tg tst el env k m i h = .ok (.ref k) h' ∧ h'[k]? = some (.lst acc') ∧ acc'.length ≤ n ∧ P n h' acc'
  | 0, i, m + 1, h, acc, e, _, hl, hk, p => by
    have : i = n := by omega
    subst this
    exact ⟨h, acc, lcL_stop (he h acc p hk), hk, hl, p⟩
  | r + 1, i, m + 1, h, acc, e, hm, hl, hk, p => by
    obtain ⟨a, ys, h', b, c, q⟩ := hs i h acc (by omega) p hk
    have hk' : (h'.set k (.lst (acc ++ ys)))[k]? = some (.lst (acc ++ ys)) := List.getElem?_set_self (List.getElem?_eq_some_iff.mp c).1
    unfold turnC at b
    cases e1 : tg (it i) env h with
    | none => rw [e1] at b; cases b
    | some pr =>
      obtain ⟨env1, h1⟩ := pr
      rw [e1] at b
      dsimp only at b
      cases e2 : tst env1 h1 with
      | no => rw [e2] at b; cases b
      | ex _ _ => rw [e2] at b; cases b
      | ok t h2 =>
        rw [e2] at b
        cases t with
        | false =>
          dsimp only at b
          cases b
          rw [lcL_skip a e1 e2]
          have z : h'.set k (.lst (acc ++ [])) = h' := by
            rw [List.append_nil]
            refine List.ext_getElem? fun j => ?_
            by_cases hj : k = j
            · subst hj
              rw [List.getElem?_set_self (List.getElem?_eq_some_iff.mp c).1, c]
            · rw [List.getElem?_set_ne hj]
          rw [z] at q hk'
          rw [List.append_nil] at q hk'
          exact lc_go n it P hs he hb r (i + 1) m h' acc (by omega) (by omega) (by omega) hk' q
        | true =>
          dsimp only at b
          cases e3 : el env1 h2 with
          | no => rw [e3] at b; cases b
          | ex _ _ => rw [e3] at b; cases b
          | ok y h3 =>
            rw [e3] at b
            cases b
            rw [lcL_step a e1 e2 e3 c (by omega)]
            exact lc_go n it P hs he hb r (i + 1) m _ _ (by omega) (by omega) (by rw [List.length_append, List.length_singleton]; omega) hk' q
  | 0, _, 0, _, _, _, hm, _, _, _ => absurd hm (Nat.not_lt_zero _)
  | _ + 1, _, 0, _, _, _, hm, _, _, _ => absurd hm (Nat.not_lt_zero _)
theorem lc_inv {src : Src} {tg : Fg} {tst : Ft} {el : Fe} {env : En} {h : Hd} (n : Nat) (it : Nat → D) (P : Nat → Hd → List D → Prop) (h0 : P 0 (h ++ [.lst []]) []) (hs : ∀ i h1 acc, i < n → P i h1 acc → h1[h.length]? = some (.lst acc) → src h1 i = .item (it i) ∧ ∃ ys h', turnC tg tst el env (it i) h1 = .ok ys h' ∧ h'[h.length]? = some (.lst acc) ∧ P (i + 1) (h'.set h.length (.lst (acc ++ ys))) (acc ++ ys))
    (he : ∀ h1 acc, P n h1 acc → h1[h.length]? = some (.lst acc) → src h1 n = .stop) (hb : n ≤ 16777216) : ∃ h' acc', lcL src tg tst el env h.length most 0 (h ++ [.lst []]) = .ok (.ref h.length) h' ∧ h'[h.length]? = some (.lst acc') ∧ acc'.length ≤ n ∧ P n h' acc' :=
  lc_go n it P hs he hb n 0 most _ _ (by omega) (by rw [most_eq]; omega) (Nat.le_refl _) (by simp) h0
/-! ### what is walked -/
theorem fix_item {xs : List D} {h : Hd} {i : Nat} (hi : i < xs.length) : fixS xs h i = .item (xs.getD i .non) := by
  unfold fixS
  rw [List.getD_eq_getElem?_getD, List.getElem?_eq_getElem hi]
  rfl
theorem fix_stop {xs : List D} {h : Hd} : fixS xs h xs.length = .stop := by
  unfold fixS
  rw [List.getElem?_eq_none (Nat.le_refl _)]
theorem live_item {xs : List D} {h : Hd} {n i : Nat} (e : h[n]? = some (.lst xs) ∨ h[n]? = some (.fro xs)) (hi : i < xs.length) : liveS n h i = .item (xs.getD i .non) := by
  unfold liveS
  rcases e with e | e <;> rw [e] <;> exact fix_item hi
theorem live_stop {xs : List D} {h : Hd} {n : Nat} (e : h[n]? = some (.lst xs) ∨ h[n]? = some (.fro xs)) : liveS n h xs.length = .stop := by
  unfold liveS
  rcases e with e | e <;> rw [e] <;> exact fix_stop
theorem rng_item {lo c : Int} {n i : Nat} {h : Hd} (hi : i < n) : rngS lo n c h i = .item (.int (lo + (i : Nat) * c)) := by
  unfold rngS
  rw [if_pos hi]
theorem rng_stop {lo c : Int} {n : Nat} {h : Hd} : rngS lo n c h n = .stop := by
  unfold rngS
  rw [if_neg (Nat.lt_irrefl _)]
theorem enm_item {s : Src} {h : Hd} {i : Nat} {d : D} (e : s h i = .item d) : enmS s h i = .item (.tup [.int (i : Nat), d]) := by
  unfold enmS
  rw [e]
theorem enm_stop {s : Src} {h : Hd} {i : Nat} (e : s h i = .stop) : enmS s h i = .stop := by
  unfold enmS
  rw [e]
/-! ### data -/
def dI (n : Int) : D := .int n
theorem ints_map : ∀ ns : List Int, intsD (ns.map .int) = some ns
  | [] => rfl
  | n :: r => by
    rw [List.map_cons, intsD, ints_map r]
theorem bools_map : ∀ ns : List Bool, boolsD (ns.map .bl) = some ns
  | [] => rfl
  | n :: r => by
    rw [List.map_cons, boolsD, bools_map r]
theorem toP_map {A : Type} {f : A → D} {g : A → PyData} {n : Nat} {h : Hd} : ∀ l : List A, (∀ a ∈ l, toP n h (f a) = some (g a)) → (l.map f).mapM (toP n h) = some (l.map g)
  | [], _ => rfl
  | a :: l, e => by
    rw [List.map_cons, List.mapM_cons, e a (List.mem_cons_self ..), toP_map l fun b hb => e b (List.mem_cons_of_mem _ hb)]
    rfl
theorem toP_ints {n : Nat} {h : Hd} (l : List Int) : (l.map D.int).mapM (toP (n + 1) h) = some (l.map PyData.int) := toP_map l fun _ _ => rfl
theorem eqv_ints : ∀ l m : List Int, PyData.eqvAll (l.map .int) (m.map .int) = decide (l = m)
  | [], [] => rfl
  | [], _ :: _ => rfl
  | _ :: _, [] => rfl
  | a :: l, b :: m => by
    rw [List.map_cons, List.map_cons, PyData.eqvAll, eqv_ints l m, PyData.eqv]
    rw [Bool.eq_iff_iff]
    simp
theorem eqv_lists : ∀ l m : List (List Int), PyData.eqvAll (l.map fun x => .tuple (x.map .int)) (m.map fun x => .tuple (x.map .int)) = decide (l = m)
  | [], [] => rfl
  | [], _ :: _ => rfl
  | _ :: _, [] => rfl
  | a :: l, b :: m => by
    rw [List.map_cons, List.map_cons, PyData.eqvAll, eqv_lists l m, PyData.eqv, eqv_ints]
    rw [Bool.eq_iff_iff]
    simp
theorem lay_ints : ∀ l : List Int, PyData.canLayAll0 (l.map .int) = true
  | [] => rfl
  | a :: l => by
    rw [List.map_cons, PyData.canLayAll0, lay_ints l]
    rfl
theorem dep_ints : ∀ l : List Int, PyData.depthAll (l.map .int) = 0
  | [] => rfl
  | a :: l => by
    rw [List.map_cons, PyData.depthAll, dep_ints l]
    rfl
theorem lay_lists : ∀ l : List (List Int), PyData.canLayAll0 (l.map fun x => .tuple (x.map .int)) = true
  | [] => rfl
  | a :: l => by
    rw [List.map_cons, PyData.canLayAll0, lay_lists l, PyData.canLay0, lay_ints]
    rfl
theorem dep_lists : ∀ l : List (List Int), PyData.depthAll (l.map fun x => .tuple (x.map .int)) ≤ 1
  | [] => Nat.zero_le _
  | a :: l => by
    rw [List.map_cons, PyData.depthAll, PyData.depth, dep_ints]
    have := dep_lists l
    omega
/-! ### texts of data -/
mutual
def nod : PyData → Nat
  | .list xs => nods xs + 1
  | .tuple xs => nods xs + 1
  | .str _ => 16777216
  | .dict _ => 16777216
  | .none => 1
  | .bool _ => 1
  | .int _ => 1
def nods : List PyData → Nat
  | [] => 0
  | d :: r => nod d + nods r
end
theorem lt_len (ts : List Str) : (listText ts).length ≤ (ts.map (·.length)).sum + ts.length * 2 + 2 := by
  have h : ∀ (ts : List Str) (k : Nat) (acc : Str), (textFrom k acc ts).length ≤ acc.length + (ts.map (·.length)).sum + ts.length * 2 := by
    intro ts
    induction ts with
    | nil => intro k acc; show acc.length ≤ _; simp
    | cons t r ih =>
      intro k acc
      have := ih (k + 1) (acc ++ (if k > 0 then ", " else "" : String) ++ t)
      have e : (textFrom k acc (t :: r)) = textFrom (k + 1) (acc ++ (if k > 0 then ", " else "" : String) ++ t) r := rfl
      rw [e]
      refine Nat.le_trans this ?_
      rw [Str.length_append, Str.length_append, List.map_cons, List.sum_cons, List.length_cons]
      have : (Str.ofString (if k > 0 then ", " else "" : String)).length ≤ 2 := by
        split
        · exact Nat.le_refl 2
        · exact Nat.zero_le _
      omega
  unfold listText
  rw [Str.length_append]
  have e1 : (Str.ofString "]").length = 1 := rfl
  have := h ts 0 "["
  have e2 : (Str.ofString "[").length = 1 := rfl
  rw [e1]
  omega
theorem tt_len (ts : List Str) : (tupleText ts).length ≤ (ts.map (·.length)).sum + ts.length * 2 + 3 := by
  unfold tupleText
  rw [Str.length_append, Str.length_append]
  have h1 := StrLaws.join_length_le ", " ts
  have e1 : (Str.ofString ", ").length = 2 := rfl
  have e2 : (Str.ofString "(").length = 1 := rfl
  have e3 : (Str.ofString (if ts.length == 1 then ",)" else ")" : String)).length ≤ 2 := by
    split
    · exact Nat.le_refl 2
    · exact Nat.le_succ 1
  rw [e1] at h1
  rw [e2]
  omega
mutual
theorem shown_le : ∀ d : PyData, d.showable = true → nod d < 16777216 → d.shown.length + 2 ≤ 1925 * nod d
  | .none, _, _ => by unfold PyData.shown nod; decide
  | .bool b, _, _ => by unfold PyData.shown nod; cases b <;> decide
  | .int i, h, _ => by
    have := int_text_len_1921 (i := i) (by simpa [PyData.showable] using h)
    unfold PyData.shown nod
    omega
  | .str x, _, h => by unfold nod at h; omega
  | .dict x, _, h => by unfold nod at h; omega
  | .list xs, h, hn => by
    unfold nod at hn ⊢
    unfold PyData.shown
    have := shownAll_le xs (by simpa [PyData.showable] using h) (by omega)
    have := lt_len (PyData.shownAll xs)
    omega
  | .tuple xs, h, hn => by
    unfold nod at hn ⊢
    unfold PyData.shown
    have := shownAll_le xs (by simpa [PyData.showable] using h) (by omega)
    have := tt_len (PyData.shownAll xs)
    omega
theorem shownAll_le : ∀ ds : List PyData, PyData.showableAll ds = true → nods ds < 16777216 → ((PyData.shownAll ds).map (·.length)).sum + (PyData.shownAll ds).length * 2 ≤ 1925 * nods ds
  | [], _, _ => by unfold PyData.shownAll nods; simp
  | d :: r, h, hn => by
    rw [PyData.showableAll, Bool.and_eq_true] at h
    unfold nods at hn ⊢
    unfold PyData.shownAll
    have h1 := shown_le d h.1 (by omega)
    have h2 := shownAll_le r h.2 (by omega)
    rw [List.map_cons, List.sum_cons, List.length_cons]
    omega
end
theorem repOk_of {d : PyData} (h : d.showable = true) (h2 : d.hasDict = false) (h3 : d.depth ≤ 60) (h4 : nod d ≤ 8000) : repOk d = true := by
  have := shown_le d h (by omega)
  unfold repOk
  rw [h, h2, decide_eq_true h3, decide_eq_true (show d.shown.length ≤ 16777216 by omega)]
  rfl
theorem log_lt {i : Int} {k : Nat} (h : i.natAbs < 2 ^ k) (hk : 0 < k) : i.natAbs.log2 < k := by
  by_cases h0 : i.natAbs = 0
  · rw [h0]; exact hk
  · exact (Nat.log2_lt h0).mpr h
theorem for_none {src : Src} {tg : Fg} {body : Fs} {env : En} {h : Hd} (e : src h 0 = .stop) : forL src tg body most 0 env h = .nx env h := by
  obtain ⟨m, hm⟩ : ∃ m, most = m + 1 := ⟨1099511627775, by rw [most_eq]⟩
  rw [hm]
  exact forL_stop e
theorem sFor_ok {it : Fi} {tg : Fg} {body : Fs} {env : En} {h h1 : Hd} {src : Src} (e : it env h = .ok src h1) : sFor it tg body env h = forL src tg body most 0 env h1 := by
  unfold sFor
  rw [e]
theorem eLc_ok {it : Fi} {tg : Fg} {tst : Ft} {el : Fe} {vs : List Nat} {env : En} {h h1 : Hd} {src : Src} (e : it env h = .ok src h1) : eLc it tg tst el vs env h = lcL src tg tst el (wipeE env vs) h1.length most 0 (h1 ++ [.lst []]) := by
  unfold eLc
  rw [e]
theorem rng1_ok {fa : Fa} {env : En} {h h1 : Hd} {j : Int} (e : fa env h = .ok [.int j] h1) (e1 : rngOk j = true) : iRng1D fa env h = .ok (rngS 0 j.toNat 1) h1 := by
  unfold iRng1D
  rw [e]
  show (if rngOk j = true then Res.ok (rngS 0 j.toNat 1) h1 else .no) = _
  rw [if_pos e1]
theorem rng2_ok {fa : Fa} {env : En} {h h1 : Hd} {i j : Int} (e : fa env h = .ok [.int i, .int j] h1) (e1 : rngOk i = true) (e2 : rngOk j = true) : iRng2D fa env h = .ok (rngS i (j - i).toNat 1) h1 := by
  unfold iRng2D
  rw [e]
  show (if (rngOk i && rngOk j) = true then Res.ok (rngS i (j - i).toNat 1) h1 else .no) = _
  rw [e1, e2, Bool.and_self, if_pos rfl]
end Mi

set_option Elab.async false
set_option linter.all false
set_option maxRecDepth 100000
set_option maxHeartbeats 1000000
namespace Mi
open PySem PySem.Spec PyProof.Rows L2
theorem seq_nx {f g : Fs} {env env1 : En} {h h1 : Hd} (e : f env h = .nx env1 h1) : sSeq f g env h = g env1 h1 := by
  show (match f env h with
    | .nx env1 h1 => g env1 h1
    | r => r) = _
  rw [e]
theorem run_rt {m : Nat} {b : Fs} {ds : List D} {h h' : Hd} {d : D} (env : En) (e : b env h = .rt d h') (he : ds.map some ++ List.replicate (m - ds.length) none = env := by rfl) : runF m b ds h = .ok d h' := by
  unfold runF
  rw [he, e]
theorem run_nx {m : Nat} {b : Fs} {ds : List D} {h h' : Hd} {env' : En} (env : En) (e : b env h = .nx env' h') (he : ds.map some ++ List.replicate (m - ds.length) none = env := by rfl) : runF m b ds h = .ok .non h' := by
  unfold runF
  rw [he, e]
theorem ret_ok {fe : Fe} {env : En} {h h' : Hd} {d : D} (e : fe env h = .ok d h') : sRet fe env h = .rt d h' := by
  show (match fe env h with
    | .ok d h1 => SRes.rt d h1
    | .ex e h1 => .ex e env h1
    | .no => .no) = _
  rw [e]
theorem expr_ok {fe : Fe} {env : En} {h h' : Hd} {d : D} (e : fe env h = .ok d h') : sExpr fe env h = .nx env h' := by
  show (match fe env h with
    | .ok d h1 => SRes.nx env h1
    | .ex e h1 => .ex e env h1
    | .no => .no) = _
  rw [e]
theorem asg_ok {fe : Fe} {i : Nat} {env : En} {h h' : Hd} {d : D} (e : fe env h = .ok d h') (hi : i < env.length) : sAsg fe (gSet i) env h = .nx (env.set i (some d)) h' := by
  show (match fe env h with
    | .ok d h1 => (match gSet i d env h1 with
      | some (env1, h1) => SRes.nx env1 h1
      | none => .no)
    | .ex e h1 => .ex e env h1
    | .no => .no) = _
  rw [e]
  dsimp only [gSet]
  rw [if_pos hi]
theorem if_ok {c : Ft} {f g : Fs} {env : En} {h h' : Hd} {b : Bool} (e : c env h = .ok b h') : sIf c f g env h = (if b = true then f else g) env h' := by
  show (match c env h with
    | .ok d h1 => (if d = true then f else g) env h1
    | .ex e h1 => .ex e env h1
    | .no => .no) = _
  rw [e]
theorem call_ok {F : List D → Hd → Res D} {fa : Fa} {env : En} {h h1 : Hd} {ds : List D} (e : fa env h = .ok ds h1) : eCall F fa env h = F ds h1 := by
  show (fa env h).bind F = _
  rw [e]
  rfl
theorem callK_ok {F : List D → Hd → Res D} {g : List D → List D → List D} {fa fk : Fa} {env : En} {h h1 h2 : Hd} {ds ws : List D} (e : fa env h = .ok ds h1) (e2 : fk env h1 = .ok ws h2) : eCallK F g fa fk env h = F (g ds ws) h2 := by
  show (fa env h).bind (fun ds h1 => (fk env h1).bind fun ws h2 => F (g ds ws) h2) = _
  rw [e]
  show (fk env h1).bind (fun ws h2 => F (g ds ws) h2) = _
  rw [e2]
  rfl
theorem cons_ok {f : Fe} {g : Fa} {env : En} {h h1 h2 : Hd} {x : D} {xs : List D} (e : f env h = .ok x h1) (e2 : g env h1 = .ok xs h2) : aCons f g env h = .ok (x :: xs) h2 := by
  show (f env h).bind (fun x h1 => (g env h1).bind fun xs h2 => .ok (x :: xs) h2) = _
  rw [e]
  show (g env h1).bind (fun xs h2 => .ok (x :: xs) h2) = _
  rw [e2]
  rfl
theorem op_ok {g : D → D → Hd → Res D} {fa fb : Fe} {env : En} {h h1 h2 : Hd} {x y : D} (e : fa env h = .ok x h1) (e2 : fb env h1 = .ok y h2) : eOp g fa fb env h = g x y h2 := by
  show (fa env h).bind (fun x h1 => (fb env h1).bind fun y h2 => g x y h2) = _
  rw [e]
  show (fb env h1).bind (fun y h2 => g x y h2) = _
  rw [e2]
  rfl
theorem tOf_ok {f : Fe} {env : En} {h h' : Hd} {b : Bool} (e : f env h = .ok (.bl b) h') : tOf f env h = .ok b h' := by
  show (f env h).bind toB = _
  rw [e]
  rfl
/-! ### equality of data -/
theorem deep_ok {x y : D} {h : Hd} {k : Bool → Bool} {d e : PyData} (hx : toP maxP h x = some d) (hy : toP maxP h y = some e) (s1 : SeqAt.shaped d = true) (s2 : SeqAt.shaped e = true) : eqDeep x y h k = .ok (.bl (k (PyData.eqv d e))) h := by
  unfold eqDeep
  rw [hx, hy]
  show (if (SeqAt.shaped d && SeqAt.shaped e) = true then Res.ok (D.bl (k (PyData.eqv d e))) h else .no) = _
  rw [s1, s2]
  rfl
theorem eqB_ref {m n : Nat} {h : Hd} {k : Bool → Bool} : eqB (.ref m) (.ref n) h k = eqDeep (.ref m) (.ref n) h k := rfl
theorem eqB_tup {m n : List D} {h : Hd} {k : Bool → Bool} : eqB (.tup m) (.tup n) h k = eqDeep (.tup m) (.tup n) h k := rfl
theorem toP_lst {n r : Nat} {h : Hd} {l : List Int} (e : h[r]? = some (.lst (l.map .int))) : toP (n + 2) h (.ref r) = some (.list (l.map .int)) := by
  unfold toP
  rw [e]
  show ((l.map D.int).mapM (toP (n + 1) h)).map PyData.list = _
  rw [toP_ints]
  rfl
theorem toP_tup {n : Nat} {h : Hd} {l : List Int} : toP (n + 2) h (.tup (l.map .int)) = some (.tuple (l.map .int)) := by
  unfold toP
  rw [toP_ints]
  rfl
theorem sh_list (l : List Int) : SeqAt.shaped (.list (l.map .int)) = true := by
  unfold SeqAt.shaped
  rw [PyData.canLay0, lay_ints, PyData.depth, dep_ints]
  rfl
theorem sh_tup (l : List Int) : SeqAt.shaped (.tuple (l.map .int)) = true := by
  unfold SeqAt.shaped
  rw [PyData.canLay0, lay_ints, PyData.depth, dep_ints]
  rfl
theorem eqv_list (l m : List Int) : PyData.eqv (.list (l.map .int)) (.list (m.map .int)) = decide (l = m) := by rw [PyData.eqv, eqv_ints]
theorem eqv_tup (l m : List Int) : PyData.eqv (.tuple (l.map .int)) (.tuple (m.map .int)) = decide (l = m) := by rw [PyData.eqv, eqv_ints]
theorem eq_lists {r t : Nat} {h : Hd} {l m : List Int} {k : Bool → Bool} (e : h[r]? = some (.lst (l.map .int))) (e2 : h[t]? = some (.lst (m.map .int))) : eqB (.ref r) (.ref t) h k = .ok (.bl (k (decide (l = m)))) h := by
  rw [eqB_ref, deep_ok (toP_lst (n := 22) e) (toP_lst (n := 22) e2) (sh_list l) (sh_list m), eqv_list]
theorem eq_tups {h : Hd} {l m : List Int} {k : Bool → Bool} : eqB (.tup (l.map .int)) (.tup (m.map .int)) h k = .ok (.bl (k (decide (l = m)))) h := by
  rw [eqB_tup, deep_ok (toP_tup (n := 22)) (toP_tup (n := 22)) (sh_tup l) (sh_tup m), eqv_tup]
/-! ### repr -/
theorem repr_ok {x : D} {h : Hd} {d : PyData} (e : toP maxP h x = some d) (ok : repOk d = true) : gRepr [x] h = .ok (.str d.shown) h := by
  unfold gRepr
  dsimp only
  rw [e]
  dsimp only
  rw [if_pos ok]
theorem repr_int {i : Int} {h : Hd} (hi : i.natAbs.log2 < 1920) : gRepr [.int i] h = .ok (.str (PyData.int i).shown) h :=
  repr_ok (d := .int i) rfl (repOk_of (by simpa [PyData.showable] using hi) (by simp [PyData.hasDict]) (by simp [PyData.depth]) (by simp [nod]))
end Mi

set_option Elab.async false
set_option linter.all false
set_option maxRecDepth 100000
set_option maxHeartbeats 2000000
namespace Mi
open PySem PySem.Spec PyProof.Rows L2
/-! ### several clauses that bind the exception -/
/-- a clause's wish: slot i holds the exception while the suite runs, and is empty behind it -/
def endsGone (i : Nat) (D : Ends) : Ends := { nx := fun σ' H' => D.nx (σ'.set i none) H', rt := D.rt, bk := fun σ' H' => D.bk (σ'.set i none) H', ct := fun σ' H' => D.ct (σ'.set i none) H' }
abbrev TsX := Addr → Value → Option Addr → TS
def wAll (K : PySem.W.Frag) (i : Nat) (Wo : WX) (D : Ends) : List (Value × TsX) → WX
  | [] => Wo
  | p :: r => fun cls d σ H => ∃ t, PySem.W.exmOne K cls p.1 = some t ∧
      (t = true → ∀ y, H y = none → p.2 y cls d (endsGone i D) (σ.set i (some (.ref y))) H) ∧ (t = false → wAll K i Wo D r cls d σ H)
inductive ClsOk (X : Cx) (m : Str) : List ExceptHandler → List (Value × TsX) → Prop
  | nil : ClsOk X m [] []
  | cons {x : Str} {c : Value} {ts : TsX} {s₀ : Stmt} {su : List Stmt} {q1 q2 : Pos} {hs : List ExceptHandler} {l : List (Value × TsX)} (hc : Names X x c)
      (go : ∀ (y : Addr) (oy : Obj) (cls : Value) (d : Option Addr) (pn : List (Addr × Obj)), Zc cls d oy → (∃ vs, oy.data = .fields vs) → PSs (X.suite y ((y, oy) :: pn)) (s₀ :: su) (ts y cls d)) (r : ClsOk X m hs l) :
      ClsOk X m (.ExceptHandler (some (.Name x q1)) (some m) (s₀ :: su) q2 :: hs) ((c, ts) :: l)
section
variable {X : Cx} {i : Nat} {m : Str} {body : List Stmt} {c0 : ExceptHandler} {cs : List ExceptHandler} {l : List (Value × TsX)} {pos : Pos} {tb : WX → TS} {Wo : WX}
theorem ps_try_all (stk : X.stack = X.env :: X.outer) (frm : X.env.frame = some X.env.locals) (nodup : X.N.Nodup) (at_ : X.N[i]? = some m) (loc : X.env.kindOf m = some .local) (tk : Takes X Wo)
    (hb : ∀ (W : WX) (pn : List (Addr × Obj)) (xe : Value → Shared → Prop), Takes (X.tr pn xe) W → PassesOwn (model X.prog X.w) X.A X.env xe → PSs (X.tr pn xe) body (tb W)) (ok_ : ClsOk X m (c0 :: cs) l) :
    PS X (.Try body (c0 :: cs) [] [] pos) (fun D σ H => tb (wAll X.K i Wo D l) D σ H) := by
  refine ⟨fun pins s σ H D inv want => ?_⟩
  have okX := inv.ok
  have frames : X.A.frames = some (X.env :: X.outer) := okX.frames.trans (congrArg some stk)
  refine wpAny_Try_except (wpAny_mono ((hb (wAll X.K i Wo D l) (X.pn ++ pins) (fun z s₁ => wpAny (model X.prog X.w) X.A (noteFrame z X.env) (fun _ s₂ => wpAny (model X.prog X.w) X.A (setFlight z none)
    (fun _ s₃ => wpAny (model X.prog X.w) X.A (handleBy z X.env (c0 :: cs)) (SP X pins D) X.xe s₃) X.xe s₂) X.xe s₁) (fun z s' thrown => ?_) PassesOwn.looking).run [] s σ H D (inv.toTry _) want) (fun fl s1 sp => ?_) (fun _ _ z => z))
  · obtain ⟨y, B, sI, _, τ, G, cls, d, rfl, J0, nb, up, sky, free, os, ag, wish⟩ := thrown
    have J : Inv X pins τ G sI := J0.ofTry okX
    have sky2 : Sky B (X.env :: X.outer) y (Zc cls d) X.env.locals s'.heap := stk ▸ sky
    show wpAny (model X.prog X.w) X.A (noteFrame (.ref y) X.env) _ _ _
    refine Sky.land Zc.steady frames frm sky2 fun k3 land3 up3 => ?_
    have K3 : Inv X pins τ G { s' with heap := k3 } := J.landed nb land3.1 (up.trans up3) os ag
    obtain ⟨oy, ws, get3, zc3, dat3⟩ := land3.there
    have apart : y ∉ frs (X.env :: X.outer) := fun mem => by
      obtain ⟨_, o', get', no⟩ := land3.2.2.1.mem mem
      rw [get3] at get'
      cases get'
      exact no _ dat3
    have nLoc : y ≠ X.env.locals := fun z => apart (List.mem_filterMap.mpr ⟨X.env, List.mem_cons_self, by rw [frm, z]⟩)
    have nFs : y ∉ X.fs := fun mem => by
      obtain ⟨e, he, q⟩ := List.mem_filterMap.mp mem
      exact apart (List.mem_filterMap.mpr ⟨e, List.mem_cons_of_mem _ he, q⟩)
    have U3 := K3.suite get3 dat3 free nLoc nFs
    have all : ∀ {hs : List ExceptHandler} {l2 : List (Value × TsX)}, ClsOk X m hs l2 → wAll X.K i Wo D l2 cls d τ G → wpAny (model X.prog X.w) X.A (handleBy (.ref y) X.env hs) (SP X pins D) X.xe { s' with heap := k3 } := by
      intro hs l2 ck
      induction ck with
      | nil =>
        intro wish2
        refine wpAny_handleBy_nil ?_
        obtain ⟨_, _, _, oe, vs, T, oT, ts', getE, zE, dE, one, hr⟩ := id land3
        unfold PySem.passOn
        refine wpAny_bind (wpAny_field getE dE one ?_)
        rw [if_neg (by simp : ¬ ((Value.ref T == Value.none) = true))]
        have last : wpAny (model X.prog X.w) X.A (setFlight (.ref y) X.env.frame) (fun _ s4 => wpAny (model X.prog X.w) X.A (throw (.ref y) : Sem Flow) (SP X pins D) X.xe s4) X.xe { s' with heap := k3 } := by
          rw [frm]
          refine HandSPX.setFlight_upZ land3 fun k4 hk4 up4 => wpAny_throw (tk _ _ ?_)
          exact ⟨y, B, sI, pins, τ, G, cls, d, rfl, J, nb, (up.trans up3).trans up4, .inr (.inr (stk.symm ▸ hk4)), free, os, ag, wish2⟩
        first
          | exact wpAny_bind (wpAny_pure (wpAny_bind last))
          | exact wpAny_bind last
      | @cons x c ts s₀ su q1 q2 hs2 l3 nm go r ih =>
        intro wish2
        obtain ⟨t, ex1, yes, no⟩ := wish2
        refine wpAny_handleBy_cons (codeAny_handlers_test ?_) (by intro q; cases q)
        have ty : PySem.W.Looks (model X.prog X.w) k3 (typeOf (.ref y)) cls := fun A Q E s k q => wpAny_typeOf_ref (k _ _ get3) (zc3.1.symm ▸ q)
        have named : ∀ {Q : Value → Shared → Prop} {E : Value → Shared → Prop}, Q c { s' with heap := k3 } → wpAny (model X.prog X.w) (X.A.mark (some (.ref y))) (eval (.Name x q1) X.env) Q E { s' with heap := k3 } := fun {Q E} q => by
          obtain ⟨g1, g2, g3 | ⟨g3, g4, g5⟩⟩ := nm
          · exact ld_glob (X := X.suite y ((y, oy) :: (X.pn ++ pins))) U3 g1 g3 q g2
          · exact ld_blt (X := X.suite y ((y, oy) :: (X.pn ++ pins))) U3 g1 g3 g4 q g5 g2
        refine named ((PySem.W.exm_one (M := model X.prog X.w) K3.kIn ty ex1).here ?_)
        cases t with
        | false => exact ih (no rfl)
        | true =>
          refine codeAny_handlers_suite_as (HandSPX.lands_againZ land3 fun k4 land4 up4 => ?_)
          have K4 : Inv X pins τ G { s' with heap := k4 } := J.landed nb land4.1 ((up.trans up3).trans up4) os ag
          obtain ⟨oy4, ws4, get4, zc4, dat4⟩ := land4.there
          refine store_ok (X := X.suite y ((y, oy4) :: (X.pn ++ pins))) (v := .ref y) (K4.suite get4 dat4 free nLoc nFs) nodup at_ (.inl loc) rfl (fun s5 U5 => ?_) (.inr loc)
          refine wpAny_mono ((go y oy4 cls d (X.pn ++ pins) zc4 ⟨_, dat4⟩).run [] s5 _ G _ U5 (yes rfl y free)) (fun fl s6 sp6 => ?_) (fun _ _ z => False.elim z)
          have wipe : ∀ {ρ : St} {H6 : Hp} {Q : Shared → Prop}, Inv (X.suite y ((y, oy4) :: (X.pn ++ pins))) [] ρ H6 s6 → (∀ s7, Inv X pins (ρ.set i none) H6 s7 → Q s7) →
              wpAny (model X.prog X.w) X.A (do bindName X.env m .none; unbindBehindTheSuite X.env m q2) (fun _ s7 => Q s7) X.xe s6 := fun U6 hq => gone_ok (U6.unsuite okX) nodup at_ loc hq
          cases fl with
          | ret u =>
            obtain ⟨v6, ρ, H6, U6, r6, w6⟩ := sp6
            exact wipe U6 fun s7 J7 => ⟨_, _, _, J7, r6, w6⟩
          | next =>
            obtain ⟨ρ, H6, U6, w6⟩ := sp6
            exact wipe U6 fun s7 J7 => ⟨_, _, J7, w6⟩
          | brk =>
            obtain ⟨ρ, H6, U6, w6⟩ := sp6
            exact wipe U6 fun s7 J7 => ⟨_, _, J7, w6⟩
          | cont =>
            obtain ⟨ρ, H6, U6, w6⟩ := sp6
            exact wipe U6 fun s7 J7 => ⟨_, _, J7, w6⟩
    exact all ok_ wish
  · cases fl with
    | ret u =>
      obtain ⟨v, τ, G, J, r, w⟩ := sp
      exact ⟨v, τ, G, J.ofTry okX, r, w⟩
    | next =>
      obtain ⟨τ, G, J, w⟩ := sp
      exact wpAny_execs_nil ⟨τ, G, J.ofTry okX, w⟩
    | brk =>
      obtain ⟨τ, G, J, w⟩ := sp
      exact ⟨τ, G, J.ofTry okX, w⟩
    | cont =>
      obtain ⟨τ, G, J, w⟩ := sp
      exact ⟨τ, G, J.ofTry okX, w⟩
end
end Mi

set_option Elab.async false
set_option linter.all false
set_option maxRecDepth 100000
set_option maxHeartbeats 2000000
namespace Mi
open PySem PySem.Spec PyProof.Rows L2
/-! ### try with several clauses, as data -/
abbrev Cla := (Str → Option Bool) × (Nat → Fs)
/-- the clause that takes an exception of the class c; some none: no clause does -/
def pickC (c : Str) : List Cla → Option (Option (Nat → Fs))
  | [] => some none
  | (mt, f) :: r => match mt c with
    | some true => some (some f)
    | some false => pickC c r
    | none => none
@[simp] def sTryAll (i : Nat) (body : Fs) (cl : List Cla) : Fs := fun env h => match body env h with
  | .ex e env1 h1 => (match pickC e.c cl with
    | some (some f) => sAft i (f (fresh env1 h1 e) (env1.set i (some (.exc (fresh env1 h1 e) e.c e.f e.v))) h1)
    | some none => .ex e env1 h1
    | none => .no)
  | r => r
/-- the clauses of a text and their functions -/
inductive DCls (X : Cx) (R : Rx) (m : Str) : List ExceptHandler → List (Value × Cla) → Prop
  | nil : DCls X R m [] []
  | cons {x : Str} {c : Value} {mt : Str → Option Bool} {fs : Nat → Fs} {s₀ : Stmt} {su : List Stmt} {q1 q2 : Pos} {hs : List ExceptHandler} {l : List (Value × Cla)} (hc : Names X x c)
      (hmt : ∀ c' b, mt c' = some b → ∀ C, X.mg c' = some (.ref C) → PySem.W.exmOne X.K (.ref C) c = some b)
      (hsu : ∀ (a : Addr) (oe : Obj) (cls : Value) (dd : Addr) (pn : List (Addr × Obj)) (n : Nat), Zc cls (some dd) oe → (∃ vs, oe.data = .fields vs) → DSs (X.suite a ((a, oe) :: pn)) (R.put n (a, cls, dd)) W0 (s₀ :: su) (fs n)) (r : DCls X R m hs l) :
      DCls X R m (.ExceptHandler (some (.Name x q1)) (some m) (s₀ :: su) q2 :: hs) ((c, mt, fs) :: l)
def tsOf (R : Rx) (p : Value × Cla) : Value × TsX := (p.1, fun a cls d D σ H => ∃ dd n, d = some dd ∧ tS (R.put n (a, cls, dd)) W0 (p.2.2 n) D σ H)
section
variable {X : Cx} {R : Rx} {W : WX} {i : Nat} {m : Str} {body : List Stmt} {c0 : ExceptHandler} {cs : List ExceptHandler} {l : List (Value × Cla)} {pos : Pos} {fb : Fs}
theorem DCls.ok {hs : List ExceptHandler} (d : DCls X R m hs l) : ClsOk X m hs (l.map (tsOf R)) := by
  induction d with
  | nil => exact .nil
  | cons hc hmt hsu r ih =>
    refine .cons hc (fun a oe cls d pn hz hv => ⟨fun pins s σ H D I h => ?_⟩) ih
    obtain ⟨dd, n, rfl, q⟩ := h
    exact (hsu a oe cls dd pn n hz hv).run pins s σ H D I q
theorem ds_tryAll (hs : X.stack = X.env :: X.outer) (hf : X.env.frame = some X.env.locals) (hN : X.N.Nodup) (hR : R.mg = X.mg) (hR0 : ∀ n, R.xa n = none) (tk : Takes X W)
    (hb : ∀ (W' : WX) (pn : List (Addr × Obj)) (xe : Value → Shared → Prop), Takes (X.tr pn xe) W' → PassesOwn (model X.prog X.w) X.A X.env xe → DSs (X.tr pn xe) R W' body fb)
    (hc : DCls X R m (c0 :: cs) l) (hi : X.N[i]? = some m := by rfl) (hln : X.env.kindOf m = some .local := by rfl) :
    DS X R W (.Try body (c0 :: cs) [] [] pos) (sTryAll i fb (l.map (·.2))) := by
  refine ⟨fun pins s σ H D I h => (ps_try_all (tb := fun W' => tS R W' fb) hs hf hN hi hln tk hb hc.ok).run pins s σ H D I ?_⟩
  obtain ⟨α, env, hp, re, rh, fi⟩ := h
  refine ⟨α, env, hp, re, rh, ?_⟩
  unfold sTryAll at fi
  cases er : fb env hp with
  | nx env1 h1 => rw [er] at fi; exact fi
  | rt d h1 => rw [er] at fi; exact fi
  | bk d h1 => rw [er] at fi; exact fi
  | ct d h1 => rw [er] at fi; exact fi
  | no => rw [er] at fi; exact fi
  | ex e env1 h1 =>
    rw [er] at fi
    dsimp only at fi
    intro α1 H1 σ1 cls dd x1 rh1 re1 rx
    have key : ∀ {hs : List ExceptHandler} {l : List (Value × Cla)}, DCls X R m hs l → FinS R W α H D (match pickC e.c (l.map (·.2)) with
        | some (some f) => sAft i (f (fresh env1 h1 e) (env1.set i (some (.exc (fresh env1 h1 e) e.c e.f e.v))) h1)
        | some none => .ex e env1 h1
        | none => .no) → wAll X.K i W D (l.map (tsOf R)) cls (some dd) σ1 H1 := by
      intro hs l dc
      induction dc with
      | nil => exact fun fi => fi α1 H1 σ1 cls dd x1 rh1 re1 rx
      | @cons x c mt fs s₀ su q1 q2 hs l hc hmt hsu r ih =>
        intro fi
        obtain ⟨C, v', g1, g2, g3, g4⟩ := rx
        cases em : mt e.c with
        | none =>
          rw [show pickC e.c (((c, mt, fs) :: l).map (·.2)) = none by show (match mt e.c with | some true => some (some fs) | some false => _ | none => none) = none; rw [em]] at fi
          exact (show False from fi).elim
        | some b =>
          refine ⟨b, by rw [g2]; exact hmt _ _ em C (by rw [← hR]; exact g1), fun hb a ha => ?_, fun hb => ?_⟩
          · subst hb
            rw [show pickC e.c (((c, mt, fs) :: l).map (·.2)) = some (some fs) by show (match mt e.c with | some true => some (some fs) | some false => _ | none => none) = _; rw [em]] at fi
            refine ⟨dd, fresh env1 h1 e, rfl, α1, _, h1, ?_, rh1.up (by unfold fresh; omega), (fin_aft (hR0 _) fi).mono x1⟩
            refine RelEnv.set (re1.up (by unfold fresh; omega)) ?_
            unfold RelD
            intro a' cls' dd' hx
            rw [put_eq] at hx
            cases hx
            exact ⟨rfl, C, v', g1, g2, g3, g4.up (by unfold fresh; omega)⟩
          · subst hb
            refine ih ?_
            rwa [show pickC e.c (((c, mt, fs) :: l).map (·.2)) = pickC e.c (l.map (·.2)) by show (match mt e.c with | some true => some (some fs) | some false => pickC e.c (List.map (fun p : Value × Cla => p.2) l) | none => none) = _; rw [em]] at fi
    exact key hc fi
end
end Mi

set_option Elab.async false
set_option linter.all false
set_option maxRecDepth 100000
set_option maxHeartbeats 2000000
namespace Mi
open PySem PySem.Spec PyProof.Rows L2
/-! ### a def run once, at one state, where no guard stands -/
section
variable {CX : CXT} {P : Program} {w : World} {K : PySem.W.Frag} {mg : Str → Option Value} {base : Heap} {k : Nat} {f : Addr} {nm ql : Str} {ar : Arguments} {bo : List Stmt} {sco : Scope}
variable {dV kV doc pm cdv ct oc : Value} {an od : Option Addr} {osl : Array (Option Value)} {N ps : List Str}
theorem run_at (lk : K.lookup f = some ⟨oc, od, .func (PySem.W.fnOf nm ql ar bo sco dV kV doc pm an cdv ct), osl⟩) (code : PySem.W.codeIn K cdv ql = true) (S : FnScope N ps sco) {A : Around} {outer : List Env} {s : Shared} {H : Hp} {args : Args} {us : List Value} {vs : List V} {Q : VK} {E : XK}
    (hr : RoomG (k + 1) A) (e0 : Env0 P w K mg base A outer s H) (hb : BindsTo s (PySem.W.fnOf nm ql ar bo sco dV kV doc pm an cdv ct) args (ps.zip us)) (r : Vals vs us) (hl : vs.length = ps.length)
    (body : RoomG k (A.deeper (envOfC ql sco s.heap.objs.size f cdv)) → ∃ t, PSs (cxOf CX P w K mg base N ql sco f cdv A outer s H E) bo t ∧ t { nx := fun _ H' => Q .non H', rt := Q } (start N vs) H) :
    codeAny (model P w) A (.call (.ref f) args) (CR CX outer P w H s Q E) s := by
  have inK : K.In s.heap := e0.mod.kin.keeps fun b o e => (e0.bs b o e).1
  have nolim : s.heap.NoLimit := e0.mod.nolimit.keeps fun b o e => (e0.bs b o e).1
  have kinds : ∀ y ∈ ps.zip us, sco.names.lookup y.1 = some .local ∨ (sco.names.lookup y.1 = some .cell ∧ ((cellsFrom (s.heap.objs.size + 1) sco.names []).lookup y.1).isSome = true) := fun ⟨n, v⟩ hy =>
    (S.par n (List.of_mem_zip hy).1).imp id fun q => ⟨q, PySem.W.cellsFrom_some _ _ _ (.inl q)⟩
  refine codeAny_call_function hr.rm.depth (inK _ _ lk) rfl S.co S.gen rfl (PySem.W.codeRec_of inK code) (hb _ _ _ _ (wpAny_newFunctionEnv_cells S.kind kinds fun env he s1 x => ?_))
  subst he
  obtain ⟨t, ht, hq⟩ := body (hr.deeper _)
  refine ⟨nolim.keeps x.toInCall.keep, codeAny_func (wpAny_mono (ht.run [] s1 (start N vs) H _ (inv_start S hr.rm.hd e0 hl r x) hq) (fun fl s' hs => ?_) fun e s' hs => hs)⟩
  cases fl with
  | next =>
    obtain ⟨σ', H', J, q⟩ := hs
    exact ⟨.non, H', J.os, J.bare, J.base, J.hok, rfl, q⟩
  | ret u =>
    obtain ⟨v, σ', H', J, rv, q⟩ := hs
    exact ⟨v, H', J.os, J.bare, J.base, J.hok, rv, q⟩
  | cont => obtain ⟨_, _, _, q⟩ := hs; exact False.elim q
  | brk => obtain ⟨_, _, _, q⟩ := hs; exact False.elim q
end
/-! ### what holds by K, mg, xa alone -/
section
variable {R R' : Rx} {α : List Addr} {H : Hp} (hK : R'.K = R.K) (hm : R'.mg = R.mg) (hx : R'.xa = R.xa)
mutual
theorem RelD.same (hK : R'.K = R.K) (hm : R'.mg = R.mg) (hx : R'.xa = R.xa) : ∀ {d : D} {v : V}, RelD R α H d v → RelD R' α H d v
  | .non, _, h => by unfold RelD at h ⊢; exact h
  | .bl _, _, h => by unfold RelD at h ⊢; exact h
  | .int _, _, h => by unfold RelD at h ⊢; exact h
  | .str _, _, h => by unfold RelD at h ⊢; exact h
  | .tup xs, v, h => by
    unfold RelD at h ⊢
    obtain ⟨a, vs, h1, h2, h3⟩ := h
    exact ⟨a, vs, h1, by rw [hK]; exact h2, RelDs.same hK hm hx h3⟩
  | .ref n, v, h => by unfold RelD at h ⊢; exact h
  | .gl _, _, h => by unfold RelD at h ⊢; rw [hm]; exact h
  | .ty _, _, h => by unfold RelD at h ⊢; exact h
  | .exc m c f d, v, h => by
    unfold RelD at h ⊢
    rw [hx, hm]
    intro a cls dd q
    obtain ⟨h1, C, v', h2, h3, h4, h5⟩ := h a cls dd q
    exact ⟨h1, C, v', h2, h3, h4, RelD.same hK hm hx h5⟩
  | .lam _, _, h => by unfold RelD at h; exact h.elim
  | .exv c f d m, v, h => by
    unfold RelD at h ⊢
    rw [hm]
    obtain ⟨a, dd, t, C, v', h1, h2, h3, h6, h4, h5⟩ := h
    exact ⟨a, dd, t, C, v', h1, h2, h3, h6, h4, RelD.same hK hm hx h5⟩
theorem RelDs.same (hK : R'.K = R.K) (hm : R'.mg = R.mg) (hx : R'.xa = R.xa) : ∀ {ds : List D} {vs : List V}, RelDs R α H ds vs → RelDs R' α H ds vs
  | [], vs, h => by unfold RelDs at h ⊢; exact h
  | d :: ds, vs, h => by
    unfold RelDs at h ⊢
    obtain ⟨v, r, h1, h2, h3⟩ := h
    exact ⟨v, r, h1, RelD.same hK hm hx h2, RelDs.same hK hm hx h3⟩
end
theorem RelKs.same (hK : R'.K = R.K) (hm : R'.mg = R.mg) (hx : R'.xa = R.xa) : ∀ {ds : List (Key × D)} {vs : List (Key × V)}, RelKs R α H ds vs → RelKs R' α H ds vs
  | [], vs, h => by unfold RelKs at h ⊢; exact h
  | (k, d) :: ds, vs, h => by
    unfold RelKs at h ⊢
    obtain ⟨v, r, h1, h2, h3⟩ := h
    exact ⟨v, r, h1, RelD.same hK hm hx h2, RelKs.same hK hm hx h3⟩
theorem RelO.same (hK : R'.K = R.K) (hm : R'.mg = R.mg) (hx : R'.xa = R.xa) {o : Ob} {a : Addr} (h : RelO R α H o a) : RelO R' α H o a := by
  cases o with
  | lst xs => obtain ⟨vs, q, t⟩ := h; exact ⟨vs, q, t.same hK hm hx⟩
  | fro xs => obtain ⟨vs, ob, q, t⟩ := h; exact ⟨vs, ob, q, t.same hK hm hx⟩
  | dic xs => obtain ⟨vs, q, t⟩ := h; exact ⟨vs, q, t.same hK hm hx⟩
theorem RelX.same (hK : R'.K = R.K) (hm : R'.mg = R.mg) (hx : R'.xa = R.xa) {e : Exn} {cls : Value} {dd : Addr} (h : RelX R α H e cls dd) : RelX R' α H e cls dd := by
  unfold RelX at h ⊢
  rw [hm]
  obtain ⟨C, v', h1, h2, h3, h4⟩ := h
  exact ⟨C, v', h1, h2, h3, h4.same hK hm hx⟩
theorem RH.same {h : Hd} (hK : R'.K = R.K) (hm : R'.mg = R.mg) (hx : R'.xa = R.xa) (hT : R'.T = R.T) (k : R'.kept α H) (r : RH R α h H) : RH R' α h H := ⟨r.len, r.nd, fun i o e => by
  obtain ⟨a, h1, h2⟩ := r.obj i o e
  exact ⟨a, h1, h2.same hK hm hx⟩, by rw [hT]; exact r.tab, k⟩
end
/-! ### a slot with a lambda -/
def Rx.lam (R : Rx) (f c' : Addr) (q : Str) (env : En) (σ : St) : Rx where
  K := R.K
  mg := R.mg
  xa := R.xa
  la := fun n => if n = 0 then some f else none
  T := R.T
  kept := fun α H => R.kept α H ∧ RelEnv R α H env σ ∧ H c' = some (LamX.CodeO c' q)
  mono := fun e h => ⟨R.mono e h.1, h.2.1.ext e, e.st _ _ h.2.2 (by unfold LamX.CodeO; trivial)⟩
section
variable {R : Rx} {α : List Addr} {H : Hp} {f c' : Addr} {q : Str} {env : En} {σ : St}
theorem RH.tolam {h : Hd} (r : RH R α h H) (e : RelEnv R α H env σ) (c : H c' = some (LamX.CodeO c' q)) : RH (R.lam f c' q env σ) α h H := RH.same (R := R) (R' := R.lam f c' q env σ) rfl rfl rfl rfl ⟨r.kp, e, c⟩ r
theorem RH.unlam {h : Hd} (r : RH (R.lam f c' q env σ) α h H) : RH R α h H := RH.same (R := R.lam f c' q env σ) (R' := R) rfl rfl rfl rfl r.kp.1 r
theorem RelD.tolam {d : D} {v : V} (r : RelD R α H d v) : RelD (R.lam f c' q env σ) α H d v := RelD.same (R := R) (R' := R.lam f c' q env σ) rfl rfl rfl r
theorem RelD.unlam {d : D} {v : V} (r : RelD (R.lam f c' q env σ) α H d v) : RelD R α H d v := RelD.same (R := R.lam f c' q env σ) (R' := R) rfl rfl rfl r
theorem RelX.tolam {e : Exn} {cls : Value} {dd : Addr} (r : RelX R α H e cls dd) : RelX (R.lam f c' q env σ) α H e cls dd := RelX.same (R := R) (R' := R.lam f c' q env σ) rfl rfl rfl r
theorem RelX.unlam {e : Exn} {cls : Value} {dd : Addr} (r : RelX (R.lam f c' q env σ) α H e cls dd) : RelX R α H e cls dd := RelX.same (R := R.lam f c' q env σ) (R' := R) rfl rfl rfl r
end
@[simp] def eThk (i : Nat) (th : Hd → Res D) : Fe := fun env h => match env[i]? with
  | some (some (.lam _)) => th h
  | _ => .no
section
variable {X : Cx} {R : Rx} {pins : List (Addr × Obj)} {σ : St} {H : Hp} {s : Shared} {env : En}
/-- the call of a lambda that the def got -/
theorem de_act {CXg : CXT} {Eg : XK} {Ng : List Str} {qg : Str} {sg : Scope} {g f c' : Addr} {cdg pm ctv : Value} {pr : Arguments} {bd : Expr} {sc : Scope} {k i : Nat} {a : Str} {pn : List (Addr × Obj)} {xe : Value → Shared → Prop} {W : WX} {fe : Fe} {p1 p2 : Pos}
    (I : Inv X pins σ H s) (L : LamX.LamS X.env.scope sc) (hf : s.heap.get? f = some (PySem.W.kla_obj "<lambda>" (X.env.qual ++ "<lambda>") pr bd sc (cloFrom X.env.cells sc.names []) pm c' ctv)) (hfn : H f = none) (hfr : f ∉ frs X.stack)
    (bnd : bindArgs (PySem.W.kla_fn "<lambda>" (X.env.qual ++ "<lambda>") pr bd sc (cloFrom X.env.cells sc.names []) pm (.ref c') ctv) ⟨[], []⟩ = pure [])
    (tk : Takes ((cxOf CXg X.prog X.w X.K X.mg X.base Ng qg sg g cdg X.A X.stack s H Eg).tr pn xe) W) (hCX : CXg = L2.CX X.prog X.w) (hr : RoomG (k + 1) (X.A.deeper (envOfC qg sg s.heap.objs.size g cdg)))
    (body : ∀ (A : Around) (outer : List Env) (s1 : Shared) (H1 : Hp) (E : XK), RoomG k (A.deeper (LamX.lamEnv X sc s1.heap.objs.size f c')) → DE (LamX.lamCx X A outer s1 H1 E sc f c') R (fun cls dd _ H => E cls dd H) bd fe)
    (hN : Ng[i]? = some a) (hv : Vis sg a) (hd : (a == ("__debug__" : Str)) = false) (hcd : (a == ("__classdict__" : Str)) = false) :
    DE ((cxOf CXg X.prog X.w X.K X.mg X.base Ng qg sg g cdg X.A X.stack s H Eg).tr pn xe) (R.lam f c' (X.env.qual ++ "<lambda>") env σ) W (.Call (.Name a p1) [] [] p2) (eThk i fun h => fe env h) := by
  subst hCX
  refine ⟨fun pinsZ sZ τ G Q IZ want => ?_⟩
  obtain ⟨α, envZ, hp, re, rh, fi⟩ := want
  have key : ∃ n, envZ[i]? = some (some (.lam n)) ∧ FinE (R.lam f c' (X.env.qual ++ "<lambda>") env σ) W α G τ (fe env hp) Q := by
    unfold eThk at fi
    split at fi
    · rename_i n q
      exact ⟨n, q, fi⟩
    · exact (show False from fi).elim
  obtain ⟨n, en, fi⟩ := key
  obtain ⟨v, hs, rs⟩ := re.2 i _ en
  obtain ⟨f2, la, ev⟩ := rs
  have ef : f2 = f := by
    have la : (if n = 0 then some f else none) = some f2 := la
    split at la
    · exact (Option.some.inj la).symm
    · cases la
  subst ev
  subst ef
  obtain ⟨kept, rel, co⟩ := rh.kp
  refine wpAny_Call_Name_kw (thn ((pe_var (pos := p1) (i := i) hN hv hd hcd).run pinsZ sZ τ G (fun u G1 => u = .ref f2 ∧ G1 = G) IZ ⟨.ref f2, hs, rfl, rfl⟩) fun u s1 got => ?_)
  obtain ⟨u1, G1, I1, r1, rfl, rfl⟩ := got
  obtain rfl : u = Value.ref f2 := r1
  have there : s1.heap.get? f2 = some (PySem.W.kla_obj "<lambda>" (X.env.qual ++ "<lambda>") pr bd sc (cloFrom X.env.cells sc.names []) pm c' ctv) := I1.base.keep f2 _ hf hfn hfr (fun z => nomatch (show f2 ∈ ([] : List Addr) from z))
  refine PySem.W.callWith_F0 ⟨_, _, _, _, there⟩ ?_
  have since : Un (frs X.stack) [] H G1 s.heap s1.heap := I1.base
  obtain ⟨⟨oc, vs, t, hoc, hdc, hvc⟩, _, _⟩ := I1.hok c' _ co
  have rc : codeAny (model X.prog X.w) (X.A.deeper (envOfC qg sg s.heap.objs.size g cdg)) (.call (.ref f2) ⟨[], []⟩) (CR (L2.CX X.prog X.w) (envOfC qg sg s.heap.objs.size g cdg :: X.stack) X.prog X.w G1 s1 Q (fun cls dd G2 => W cls dd τ G2)) s1 := by
    refine PySem.W.kla_callFunE hr.rm.depth there rfl L.co L.gen rfl ⟨c', oc, vs, t, rfl, hoc, hdc, hvc⟩ ?_
    rw [bnd]
    refine wpAny_pure (wpAny_newFunctionEnv (fun y hy => (L.own y hy).2) (fun y hy => absurd hy (by simp)) (fun h₁ hns hsb => ⟨I1.nolimit.fresh _ hsb, ?_⟩) L.kind)
    have kp : ∀ b o, s1.heap.get? b = some o → h₁.get? b = some o := fun b o e => hsb.extBut b o (Nat.ne_of_lt (Heap.lt_size e)) (Heap.get?_push_of_some _ e)
    have J := LamX.lam_start2 (E := fun cls dd G2 => W cls dd τ G2) (c' := c') (tk := s1.toks + ([] : List (Str × Value)).length) (f := f2) I L I1.env0 hr.rm.hd since hns kp
    refine PySem.W.kla_codeExpr (wpAny_mono ((body _ _ s1 G1 (fun cls dd G2 => W cls dd τ G2) (hr.deeper _)).run [] _ _ G1 Q J ?_) (fun v s' hq => ?_) fun e s' hq => hq)
    · refine ⟨α, env, hp, rel, rh.unlam, ?_⟩
      cases er : fe env hp with
      | no => rw [er] at fi; exact fi
      | ok d h2 =>
        rw [er] at fi
        exact fun α' H' v x rh2 rd => fi α' H' v x (rh2.tolam (rel.ext x) (x.st _ _ co (by unfold LamX.CodeO; trivial))) rd.tolam
      | ex e h2 =>
        rw [er] at fi
        exact fun α' H' cls dd x rh2 rx => fi α' H' cls dd x (rh2.tolam (rel.ext x) (x.st _ _ co (by unfold LamX.CodeO; trivial))) rx.tolam
    · obtain ⟨w', H', J', rv, q⟩ := hq
      exact ⟨w', H', J'.os, J'.bare, J'.base, J'.hok, rv, q⟩
  refine wpAny_call (codeAny_mono rc fun r s' hq => ?_)
  cases r with
  | error e => exact tk e s' (XE.of_call I1 (fun _ _ _ z => z) hq)
  | ok fl =>
    cases fl with
    | ret u => exact I1.after hq
    | next => exact False.elim hq
    | brk => exact False.elim hq
    | cont => exact False.elim hq
end
/-! ### a def that gets a lambda and calls it inside a try -/
structure ToldX (P : Program) (w : World) (K : PySem.W.Frag) (mg : Str → Option Value) (base : Heap) (d : He.DefD) (N : List Str) (a : Str) (k : Nat) (fb : (Hd → Res D) → Fs) : Prop where
  n0 : N[0]? = some a
  vis : Vis d.scope a
  nd : (a == ("__debug__" : Str)) = false
  ncd : (a == ("__classdict__" : Str)) = false
  fd : ∃ fd, FunD K d.name d.qual d.params d.body d.scope (d.dvs K) (d.kws K) (He.fAd K d.at_) fd
  bnd : ∀ fd, FunD K d.name d.qual d.params d.body d.scope (d.dvs K) (d.kws K) (He.fAd K d.at_) fd → ∀ (s : Shared) (u : Value), K.In s.heap → BindsTo s fd ⟨[u], []⟩ [(a, u)]
  sc : FnScope N [a] d.scope
  body : ∀ (cdv : Value) (A : Around) (outer : List Env) (s : Shared) (H : Hp) (E : XK) (la : Nat → Option Addr) (T : List (Addr × Str)) (kept : List Addr → Hp → Prop) (mono : ∀ {α α' : List Addr} {H H' : Hp}, Ext α H α' H' → kept α H → kept α' H') (th : Hd → Res D), RoomG k (A.deeper (envOfC d.qual d.scope s.heap.objs.size (He.fAd K d.at_) cdv)) →
    (∀ (W : WX) (pn : List (Addr × Obj)) (xe : Value → Shared → Prop) (p1 p2 : Pos), Takes ((cxOf (L2.CX P w) P w K mg base N d.qual d.scope (He.fAd K d.at_) cdv A outer s H E).tr pn xe) W →
      DE ((cxOf (L2.CX P w) P w K mg base N d.qual d.scope (He.fAd K d.at_) cdv A outer s H E).tr pn xe) ⟨K, mg, fun _ => none, la, T, kept, mono⟩ W (.Call (.Name a p1) [] [] p2) (eThk 0 th)) →
    DSs (cxOf (L2.CX P w) P w K mg base N d.qual d.scope (He.fAd K d.at_) cdv A outer s H E) ⟨K, mg, fun _ => none, la, T, kept, mono⟩ (fun cls dd _ H => E cls dd H) d.body (fb th)
/-- what the def makes of a lambda's reading -/
@[simp] def toldF (m : Nat) (fb : (Hd → Res D) → Fs) : (Hd → Res D) → Hd → Res D := fun th h => match fb th (some (.lam 0) :: List.replicate (m - 1) none) h with
  | .nx _ h' => .ok .non h'
  | .rt d h' => .ok d h'
  | .ex e _ h' => .ex e h'
  | _ => .no
@[simp] def eTold (F : (Hd → Res D) → Hd → Res D) (fe : Fe) : Fe := fun env h => F (fun h1 => fe env h1) h
section
variable {X : Cx} {W : WX} {Tt : List (Addr × Str)} {d : He.DefD} {N : List Str} {a x : Str} {k kt : Nat} {fb : (Hd → Res D) → Fs} {c P : Addr} {pr : Arguments} {bd : Expr} {sc : Scope} {fe : Fe} {p lpos pos : Pos}
theorem de_told (hF : ToldX X.prog X.w X.K X.mg X.base d N a kt fb) (hk : kt ≤ k + 1) (hr : RoomG (k + 2) X.A) (hg : Gl X x) (hm : X.mg x = some (.ref (He.fAd X.K d.at_))) (tk : Takes X W)
    (TB : LamX.TabB X.base X.mg c P) (hcode : X.env.code = .ref c) (hmT : (P, X.env.qual ++ "<lambda>") ∈ Tt) (hu : ∀ p ∈ Tt, p.1 = P → p.2 = X.env.qual ++ "<lambda>") (L : LamX.LamS X.env.scope sc) 
    (lam : ∀ (A : Around) (outer : List Env) (s : Shared) (H : Hp) (E : XK) (f c' : Addr), RoomG k (A.deeper (LamX.lamEnv X sc s.heap.objs.size f c')) → DE (LamX.lamCx X A outer s H E sc f c') (rx X.K X.mg Tt) (fun cls dd _ H => E cls dd H) bd fe)
    (hdef : defaultsOf pr X.env = ([], []) := by rfl) (bnd : ∀ (q : Str) (cl : List (Str × Addr)) (pm cv ctv : Value), bindArgs (PySem.W.kla_fn "<lambda>" q pr bd sc cl pm cv ctv) ⟨[], []⟩ = pure [] := by intros; rfl) (hdb : (x == ("__debug__" : Str)) = false := by decide) :
    DE X (rx X.K X.mg Tt) W (.Call (.Name x p) [.Lambda pr bd sc lpos] [] pos) (eTold (toldF N.length fb) fe) := by
  refine ⟨fun pins s σ H Q I want => ?_⟩
  obtain ⟨α, env, hp, re, rh, fi⟩ := want
  obtain ⟨fd, FD⟩ := hF.fd
  have hb := hF.bnd fd FD
  obtain ⟨oc, od, dV, kV, doc, pm, an, cdv, ct, osl, efd, lk, code, _, _⟩ := id FD.ex
  subst efd
  refine wpAny_Call_Name_kw (ld_glob I hg hm ?_ hdb)
  refine PySem.W.callWith_K (h₀ := X.base) I.ok.mod.kin FD.kp ?_ (by rfl) (by rfl)
  show wpAny _ _ (spliced ((false, eval (.Lambda pr bd sc lpos) X.env) :: backTo pos (starEach [] X.env))) _ _ s
  refine Calls.spliced_cons (LamX.lam_make2 I TB hcode hmT hu rh.tab hdef (L.has I.ok) fun f c' pm' ctv H1 s' I1 eN T1 hf hfn hfr hco => ?_)
  refine Calls.spliced_nil ⟨I1.kIn, ?_⟩
  obtain ⟨x1, rh1⟩ := rh.extN eN T1
  have re1 := re.ext x1
  have fi1 := Fin.mono fi x1
  have rc : codeAny (model X.prog X.w) X.A (.call (.ref (He.fAd X.K d.at_)) ⟨[.ref f], []⟩) (CR (L2.CX X.prog X.w) X.stack X.prog X.w H1 s' Q (fun cls dd G => W cls dd σ G)) s' := by
    refine run_at (N := N) (ps := [a]) (us := [.ref f]) (vs := [.ref f]) lk code hF.sc hr I1.env0 (hb s' (.ref f) I1.kIn) (.cons rfl .nil) rfl fun hr2 => ?_
    refine ⟨_, hF.body cdv X.A X.stack s' H1 (fun cls dd G => W cls dd σ G) ((rx X.K X.mg Tt).lam f c' (X.env.qual ++ "<lambda>") env σ).la Tt _ ((rx X.K X.mg Tt).lam f c' (X.env.qual ++ "<lambda>") env σ).mono (fun h1 => fe env h1) (hr2.mono hk) fun W2 pn xe p1 p2 tk2 => ?_, ?_⟩
    · exact de_act I1 L hf hfn hfr (bnd _ _ _ _ _) tk2 rfl hr2 (fun A outer s2 H2 E hr3 => lam A outer s2 H2 E f c' hr3) hF.n0 hF.vis hF.nd hF.ncd
    · have len : N.length = 1 + (N.length - 1) := by
        have := hF.n0
        cases N with
        | nil => cases this
        | cons y r => simp; omega
      refine ⟨α, some (.lam 0) :: List.replicate (N.length - 1) none, hp, ⟨?_, fun i dd e => ?_⟩, rh1.tolam re1 hco, ?_⟩
      · unfold L2.start
        simp
      · cases i with
        | zero =>
          cases e
          exact ⟨.ref f, rfl, f, rfl, rfl⟩
        | succ i =>
          rw [List.getElem?_cons_succ, List.getElem?_replicate] at e
          split at e <;> cases e
      · have back : ∀ {α' : List Addr} {H' : Hp} {h' : Hd}, RH ((rx X.K X.mg Tt).lam f c' (X.env.qual ++ "<lambda>") env σ) α' h' H' → RH (rx X.K X.mg Tt) α' h' H' := fun r => r.unlam
        have fi2 : FinE (rx X.K X.mg Tt) W α H1 σ (toldF N.length fb (fun h1 => fe env h1) hp) Q := fi1
        unfold toldF at fi2
        cases eb : fb (fun h1 => fe env h1) (some (.lam 0) :: List.replicate (N.length - 1) none) hp with
        | nx env2 h2 => rw [eb] at fi2; exact fun α' H' σ' x2 rh2 _ => fi2 α' H' .non x2 (back rh2) .non
        | rt d2 h2 => rw [eb] at fi2; exact fun α' H' v x2 rh2 rd => fi2 α' H' v x2 (back rh2) (RelD.unlam (R := rx X.K X.mg Tt) (f := f) (c' := c') (q := X.env.qual ++ "<lambda>") (env := env) (σ := σ) rd)
        | ex e env2 h2 => rw [eb] at fi2; exact fun α' H' σ' cls dd x2 rh2 _ rx2 => fi2 α' H' cls dd x2 (back rh2) (RelX.unlam (R := rx X.K X.mg Tt) (f := f) (c' := c') (q := X.env.qual ++ "<lambda>") (env := env) (σ := σ) rx2)
        | bk env2 h2 => rw [eb] at fi2; exact (show False from fi2).elim
        | ct env2 h2 => rw [eb] at fi2; exact (show False from fi2).elim
        | no => rw [eb] at fi2; exact fi2
  refine wpAny_call (codeAny_mono rc fun r s2 hq => ?_)
  cases r with
  | error e => exact tk e s2 (XE.of_call I1 (fun _ _ _ z => z) hq)
  | ok fl =>
    cases fl with
    | ret u => exact I1.after hq
    | next => exact False.elim hq
    | brk => exact False.elim hq
    | cont => exact False.elim hq
end
/-- a def whose text makes lambdas: its code object is known -/
theorem fd_okC {Tt : List (Addr × Str)} {P : Program} {w : World} {K : PySem.W.Frag} {mg : Str → Option Value} {base : Heap} {d : He.DefD} {N ps : List Str} {k : Nat} (F : ∃ fd, FunD K d.name d.qual d.params d.body d.scope (d.dvs K) (d.kws K) (He.fAd K d.at_) fd) (S : FnScope N ps d.scope) {fb : Fs}
    (hb : ∀ (A : Around) (outer : List PySem.Env) (s : Shared) (H : Hp) (E : XK), RoomG k (A.deeper (envOfC d.qual d.scope s.heap.objs.size (He.fAd K d.at_) (.ref (He.codeOf K d.at_)))) →
      DSs (cxOf (L2.CX P w) P w K mg base N d.qual d.scope (He.fAd K d.at_) (.ref (He.codeOf K d.at_)) A outer s H E) (rx K mg Tt) (fun cls dd _ H => E cls dd H) d.body fb) : FDx P w K mg Tt base d ps (k + 1) (runF N.length fb) := by
  obtain ⟨fd, F⟩ := F
  obtain ⟨oc, od, dV, kV, doc, pm, an, cdv, ct, osl, e, lk, hcd, _, _⟩ := id F.ex
  subst e
  obtain ⟨c, rfl⟩ := He.codeIn_ref hcd
  have ec : He.codeOf K d.at_ = c := He.codeOf_eq lk rfl
  subst ec
  refine ⟨_, F, fnG_of lk hcd S (fun vs H Q E h => h.1) fun A outer s H vs Q E hr h => ⟨_, hb A outer s H E hr, ?_⟩⟩
  obtain ⟨_, α, ds, hp, rd, rh, f⟩ := h
  refine ⟨α, _, hp, RelEnv.start rd, rh, ?_⟩
  unfold runF at f
  cases eb : fb (ds.map some ++ List.replicate (N.length - ds.length) none) hp with
  | no => rw [eb] at f; exact f
  | bk env h' => rw [eb] at f; exact (show False from f).elim
  | ct env h' => rw [eb] at f; exact (show False from f).elim
  | nx env h' => rw [eb] at f; exact fun α1 H1 σ1 x1 rh1 _ => f α1 H1 .non x1 rh1 .non
  | rt d h' => rw [eb] at f; exact f
  | ex e env h' => rw [eb] at f; exact fun α1 H1 σ1 cls dd x1 rh1 _ rx => f α1 H1 cls dd x1 rh1 rx
end Mi

set_option Elab.async false
set_option linter.all false
set_option maxRecDepth 100000
set_option maxHeartbeats 2000000
namespace Mi
open PySem PySem.Spec PyProof.Rows L2
/-! ### the end, with tables of code objects -/
section
variable {P : Program} {w : World} {K : PySem.W.Frag} {mg mb : Str → Option Value} {CX : CXT} {k : Nat} {fa a : Addr} {fd : FuncData} {x : Str} {sp : Sp} {s : Shared} {vs : List Value} {ns : List Int} {cs : List (Addr × Addr)}
theorem law_callT (inK : K.In s.heap) (nsG : s.heap.Ns mainGlobals mg) (blt : s.heap.Ns builtinsNs mb) (bltE : ∀ x : Str, x ≠ "__name__" → mb x = bootBuiltins x) (nol : s.heap.NoLimit) (gen : s.gens = #[])
    (tE : ∀ p ∈ cs, s.heap.get? p.2 = some { cls := .none, data := .fields #[] }) (tN : ∀ p ∈ cs, K.lookup p.2 = none) (tC : ∀ p ∈ cs, PySem.W.CodeHd s.heap p.1 p.2)
    (bmod : ∃ (m : Addr) (om : Obj), mg "__builtins__" = some (.ref m) ∧ m ≠ builtinsNs ∧ s.heap.get? m = some om ∧ om.cls = .type "module" ∧ om.dict = some builtinsNs ∧ om.data = .plain)
    (atA : s.heap.get? a = some { cls := .type "list", data := .seq vs.toArray }) (notK : K.lookup a = none) (intsA : IntsAre vs ns) (len : ns.length ≤ sizeLine) (room : RoomG k callerA)
    (fn : ∀ base : Heap, K.In base → base.Ns mainGlobals mg → (∀ p ∈ cs, LamX.TabB base mg p.1 p.2) → FnG P w K mg base CX k fa fd [x] sp) (bind : ∀ (s : Shared) (u : Value), BindsTo s fd ⟨[u], []⟩ [(x, u)])
    (spA : ∀ H : Hp, (∀ p ∈ cs, H p.2 = some (.tbl #[])) → (∃ ob, H a = some (.frz ob (.lst (ns.map V.int)))) → sp [.ref a] H (fun v _ => v = .bl true) fun _ _ _ => False) (cxA : ∀ H e s', CX [] H s (fun _ _ _ => False) e s' → False) :
    codeAny (model P w) callerA (.call (.ref fa) ⟨[.ref a], []⟩) (fun r s' => r = .ok (.ret (.bool true)) ∧ OldK s.heap s'.heap ∧ s'.os = s.os ∧ AllBare s'.gens) s := by
  let ts : List Addr := cs.map (·.2)
  let H : Hp := fun b => if b = a then some (.frz { cls := .type "list", data := .seq vs.toArray } (.lst (ns.map V.int))) else if b ∈ ts then some (.tbl #[]) else none
  have tab : ∀ b ∈ ts, s.heap.get? b = some { cls := .none, data := .fields #[] } := fun b hb => by
    obtain ⟨p, hp, rfl⟩ := List.mem_map.mp hb
    exact tE p hp
  have aOut : a ∉ ts := fun hb => by
    have q := tab a hb
    rw [atA] at q
    exact nomatch (congrArg Obj.data (Option.some.inj q) : Data.seq vs.toArray _ = Data.fields #[])
  have inTs : ∀ p ∈ cs, p.2 ∈ ts := fun p hp => List.mem_map.mpr ⟨p, hp, rfl⟩
  have HA : H a = some (.frz { cls := .type "list", data := .seq vs.toArray } (.lst (ns.map V.int))) := if_pos rfl
  have HT : ∀ b ∈ ts, H b = some (.tbl #[]) := fun b hb => (if_neg (show ¬ b = a from fun z => aOut (by rw [← z]; exact hb))).trans (if_pos hb)
  have HN : ∀ b, b ≠ a → b ∉ ts → H b = none := fun b h1 h2 => (if_neg h1).trans (if_neg h2)
  have okH : HOk P w H s.heap := fun b u e => by
    by_cases h1 : b = a
    · rw [h1, HA] at e
      cases e
      rw [h1]
      exact ⟨atA, by rw [List.length_map]; exact len, vs, _, vals_ints intsA, atA⟩
    · by_cases h2 : b ∈ ts
      · rw [HT b h2] at e
        cases e
        exact tab b h2
      · rw [HN b h1 h2] at e
        cases e
  -- an object of another shape is not tracked
  have free : ∀ {b : Addr} {o : Obj}, s.heap.get? b = some o → (∀ xs n, o.data ≠ .seq xs n) → o.data ≠ .fields #[] → H b = none := fun {b o} e h1 h2 => by
    refine HN b (fun z => ?_) fun z => ?_
    · rw [z, atA] at e
      cases e
      exact h1 _ _ rfl
    · rw [tab b z] at e
      cases e
      exact h2 rfl
  have at_ : ∀ {b : Addr} {o : Obj}, s.heap.get? b = some o → H b = none → (hidT s.heap H).get? b = some o := fun e n => hidT_get e n
  have atD : ∀ {b : Addr} {o : Obj} {es : Array DictEntry} {ep : Nat}, s.heap.get? b = some o → o.data = .dict es ep → (hidT s.heap H).get? b = some o := fun e d => at_ e (free e (fun xs n z => by rw [d] at z; cases z) fun z => by rw [d] at z; cases z)
  have nsB : ∀ {b : Addr} {m : Str → Option Value}, s.heap.Ns b m → (hidT s.heap H).Ns b m := fun ⟨o, es, ep, e, d, r⟩ => ⟨o, es, ep, atD e d, d, r⟩
  have kB : K.In (hidT s.heap H) := fun b o e => at_ (inK b o e) (HN b (fun z => by rw [z, notK] at e; cases e) fun z => by
    obtain ⟨p, hp, rfl⟩ := List.mem_map.mp z
    rw [tN p hp] at e
    cases e)
  have modB : L2.Mod K mg (hidT s.heap H) := ⟨kB, nsB nsG, ⟨mb, nsB blt, bltE⟩, let ⟨mc, h1, h2⟩ := nol; ⟨mc, nsB h1, h2⟩⟩
  have tb : ∀ p ∈ cs, LamX.TabB (hidT s.heap H) mg p.1 p.2 := fun p hp => by
    refine ⟨?_, ?_, fun z => ?_⟩
    · obtain ⟨o, us, fi, tf, fl, tg, inF, tx, tt, e1, r1, r2, r3, rest⟩ := tC p hp
      refine ⟨o, us, fi, tf, fl, tg, inF, tx, tt, at_ e1 (free e1 (fun xs n z => by rw [r2] at z; cases z) fun z => ?_), r1, r2, r3, rest⟩
      rw [r2] at z
      cases z
      simp at r3
    · obtain ⟨m, om, b1, b2, b3, b4, b5, b6⟩ := bmod
      have n1 : m ≠ mainGlobals := fun z => by
        obtain ⟨o, es, ep, e, d, _⟩ := nsG
        rw [← z, b3] at e
        cases e
        rw [b6] at d
        cases d
      have n2 : m ≠ p.2 := fun z => by
        rw [z, tE p hp] at b3
        cases b3
        cases b6
      exact ⟨m, om, b1, b2, n1, n2, at_ b3 (free b3 (fun xs n z => by rw [b6] at z; cases z) fun z => by rw [b6] at z; cases z), b4, b5, b6⟩
    · obtain ⟨o, es, ep, e, d, _⟩ := nsG
      rw [z, tE p hp] at e
      cases e
      cases d
  have e0 : Env0 P w K mg (hidT s.heap H) callerA [] s H := ⟨rfl, modB, fun b o e => of_hidT e, Nat.le_of_eq (hidT_size _ _), trivial, fun b hb => absurd (show b ∈ ([] : List Addr) from hb) (by simp), okH, .of_eq gen⟩
  refine codeAny_mono ((fn _ kB (nsB nsG) tb).run callerA [] s H ⟨[.ref a], []⟩ [.ref a] [.ref a] _ _ room e0 (bind s (.ref a)) (.cons rfl .nil) (spA H (fun p hp => HT _ (inTs p hp)) ⟨_, HA⟩)) fun r s' got => ?_
  cases r with
  | error e => exact (cxA H e s' got).elim
  | ok fl =>
    cases fl with
    | next => exact False.elim got
    | brk => exact False.elim got
    | cont => exact False.elim got
    | ret u =>
      obtain ⟨v, H', os, bare, un, ok2, rv, rfl⟩ := got
      obtain rfl : u = Value.bool true := rv
      have same : ∀ b o, b ∉ ts → s.heap.get? b = some o → s'.heap.get? b = some o := fun b o nb e => by
        by_cases h1 : b = a
        · subst h1
          obtain ⟨e2, _⟩ := ok2 b _ (un.frzs b _ _ HA)
          rw [e] at atA
          cases atA
          exact e2
        · exact un.keep b o e (HN b h1 nb) (by intro z; exact absurd (show b ∈ ([] : List Addr) from z) (by simp)) (by simp)
      have grew : ∀ b ∈ ts, ∃ more : Array Value, s'.heap.get? b = some { cls := .none, data := .fields more } := fun b hb => by
        obtain ⟨more, z⟩ := un.tbls b #[] (HT b hb)
        exact ⟨_, ok2 b _ z⟩
      refine ⟨rfl, ⟨fun b o e => ?_, fun b o e => ?_⟩, os, bare⟩
      · by_cases hb : b ∈ ts
        · obtain ⟨more, hm⟩ := grew b hb
          obtain ⟨p, hp, rfl⟩ := List.mem_map.mp hb
          rw [tE p hp] at e
          cases e
          exact .inr (.inl ⟨((tC p hp).tab (tE p hp)).isCodeTable, rfl, #[], more, rfl, by rw [Array.empty_append]; exact hm⟩)
        · exact .inl (same b o hb e)
      · by_cases hb : b ∈ ts
        · obtain ⟨more, hm⟩ := grew b hb
          exact ⟨_, hm⟩
        · exact ⟨o, same b o hb e⟩
end
/-! ### the hook -/
abbrev DefAt := Str × Option Str
def frU (g : Addr → Option Obj) (n : Nat) : PySem.W.Frag := (frM g n).filter fun p => !(He.emptyTab p.2)
theorem frU_sub {g : Addr → Option Obj} {n : Nat} {p : Addr × Obj} (h : p ∈ frU g n) : p ∈ frM g n := (List.mem_filter.mp h).1
theorem frU_get {g : Addr → Option Obj} {n : Nat} {a : Addr} {o : Obj} (e : (frU g n).lookup a = some o) : g a = some o ∧ He.emptyTab o = false := by
  have m := List.mem_filter.mp (lookup_mem e)
  have m1 := m.1
  unfold frM at m1
  exact ⟨frG_mem (p := (a, o)) (List.mem_filter.mp m1).1, by simpa using m.2⟩
theorem frU_in {h : Heap} {n : Nat} : (frU h.get? n).In h := fun a o e => (frU_get e).1
theorem frU_none {g : Addr → Option Obj} {n : Nat} {a : Addr} {o : Obj} (h : g a = some o) (t : He.emptyTab o = true) : (frU g n).lookup a = none := by
  cases e : (frU g n).lookup a with
  | none => rfl
  | some u =>
    obtain ⟨h1, h2⟩ := frU_get e
    rw [h] at h1
    cases h1
    rw [t] at h2
    cases h2
structure SaysU (fs : List (PySem.W.Frag → Bool)) (fn : List He.DefD) (tf : List DefAt) (h : Heap) (K : PySem.W.Frag) : Prop where
  inK : K.In h
  noL : ∀ p ∈ K, isLst p.2 = false
  c : obsK fs fn K = He.valD fn
  hd : ∀ p ∈ tf, PySem.W.codeHdIn K (He.cT K p).1 (He.cT K p).2 = true
  nd : (tf.map fun p => (He.cT K p).2).Nodup
  out : ∀ p ∈ tf, K.lookup (He.cT K p).2 = none
  emp : ∀ p ∈ tf, h.get? (He.cT K p).2 = some { cls := .none, data := .fields #[] }
def obsU (n : Nat) (fs : List (PySem.W.Frag → Bool)) (fn : List He.DefD) (tf : List DefAt) (g : Addr → Option Obj) : He.AlD × Bool := (obsK fs fn (frU g n), He.tabsB g tf (frU g n) && decide (tf.map fun p => (He.cT (frU g n) p).2).Nodup)
theorem saysU_of {n : Nat} {fs : List (PySem.W.Frag → Bool)} {fn : List He.DefD} {tf : List DefAt} {h : Heap} (e : obsU n fs fn tf h.get? = (He.valD fn, true)) : SaysU fs fn tf h (frU h.get? n) := by
  have e1 : obsK fs fn (frU h.get? n) = He.valD fn := congrArg (fun z : He.AlD × Bool => z.1) e
  have e2 : (He.tabsB h.get? tf (frU h.get? n) && decide (tf.map fun p => (He.cT (frU h.get? n) p).2).Nodup) = true := congrArg (fun z : He.AlD × Bool => z.2) e
  obtain ⟨h1, h2⟩ := He.ba e2
  have each : ∀ p ∈ tf, PySem.W.codeHdIn (frU h.get? n) (He.cT (frU h.get? n) p).1 (He.cT (frU h.get? n) p).2 = true ∧ ∃ o, h.get? (He.cT (frU h.get? n) p).2 = some o ∧ He.emptyTab o = true := fun p hp => by
    obtain ⟨h3, h4⟩ := He.ba (List.all_eq_true.mp h1 p hp)
    refine ⟨h3, ?_⟩
    split at h4
    · rename_i o q
      exact ⟨o, q, h4⟩
    · cases h4
  refine ⟨frU_in, fun p hp => frM_no (frU_sub hp), e1, fun p hp => (each p hp).1, of_decide_eq_true h2, fun p hp => ?_, fun p hp => ?_⟩
  · obtain ⟨_, o, q, z⟩ := each p hp
    exact frU_none q z
  · obtain ⟨_, o, q, z⟩ := each p hp
    rw [q, He.emptyTab_eq z]
def hookU (n : Nat) (fs : List (PySem.W.Frag → Bool)) (fn : List He.DefD) (tf : List DefAt) : PySem.W.Hook where
  α := He.AlD × Bool
  obs := fun s => obsU n fs fn tf s.heap.get?
  val := fun _ => (He.valD fn, true)
  says := fun _ h => ∃ K : PySem.W.Frag, SaysU fs fn tf h K
  of := fun _ _ e => ⟨_, saysU_of e⟩
  keeps := fun _ _ _ ⟨K, z⟩ k => ⟨K, PySem.W.Frag.In.keeps z.inK k, z.noL, z.c, z.hd, z.nd, z.out, fun p hp => k _ _ (z.emp p hp)⟩
theorem obsU_eq {n : Nat} {fs : List (PySem.W.Frag → Bool)} {fn : List He.DefD} {tf : List DefAt} {g : Addr → Option Obj} {s : Shared} (h : ∀ a, g a = s.heap.get? a) : obsU n fs fn tf g = (hookU n fs fn tf).obs s := by
  have e : g = s.heap.get? := funext h
  rw [e] <;> rfl
/-- the tables, and what their code objects are called -/
def tabsOf (K : PySem.W.Frag) (tf : List DefAt) : List (Addr × Str) := tf.map fun p => ((He.cT K p).2, (p.1 ++ (".<locals>." : Str)) ++ ("<lambda>" : Str))
theorem tabs_mem {K : PySem.W.Frag} {tf : List DefAt} {p : DefAt} (h : p ∈ tf) : ((He.cT K p).2, (p.1 ++ (".<locals>." : Str)) ++ ("<lambda>" : Str)) ∈ tabsOf K tf := List.mem_map.mpr ⟨p, h, rfl⟩
theorem tabs_one {K : PySem.W.Frag} : ∀ {tf : List DefAt} {p : DefAt}, (tf.map fun p => (He.cT K p).2).Nodup → p ∈ tf → ∀ q ∈ tabsOf K tf, q.1 = (He.cT K p).2 → q.2 = (p.1 ++ (".<locals>." : Str)) ++ ("<lambda>" : Str)
  | [], _, _, h, _, _, _ => absurd h (by simp)
  | r :: tf, p, nd, h, q, hq, e => by
    rw [List.map_cons, List.nodup_cons] at nd
    unfold tabsOf at hq
    rw [List.map_cons] at hq
    rcases List.mem_cons.mp h with h1 | h1 <;> rcases List.mem_cons.mp hq with h2 | h2
    · subst h1; subst h2; rfl
    · subst h1
      obtain ⟨z, hz, ez⟩ := List.mem_map.mp h2
      refine absurd (List.mem_map.mpr ⟨z, hz, ?_⟩) nd.1
      rw [← ez] at e
      exact e
    · subst h2
      exact absurd (List.mem_map.mpr ⟨p, h1, e.symm⟩) nd.1
    · exact tabs_one nd.2 h1 q h2 e
theorem walk_ofT {l : PySem.W.OpenLaw} {n k : Nat} {q : Program} {loose : List Str} {XP : (Str → Option Value) → Heap → Prop} {fs : List (PySem.W.Frag → Bool)} {fn : List He.DefD} {tf : List DefAt} {m : Nat} {d : DefRec} {x : Str}
    (hn : l.most = some n) (hn2 : n ≤ sizeLine) (hdf : d.params.defaults = []) (hr : RoomG k callerA)
    (F : ∀ (w : World) (mg : Str → Option Value) (fa : Addr) (h : Heap) (K : PySem.W.Frag), K.In h → obsK fs fn K = He.valD fn → (tf.map fun p => (He.cT K p).2).Nodup → h.Ns mainGlobals mg → mg d.name = some (.ref fa) →
      ∃ (fd : FuncData) (F0 : List D → Hd → Res D), (∀ (s : Shared) (u : Value), BindsTo s fd ⟨[u], []⟩ [(x, u)]) ∧
        (∀ ns : List Int, ns.length ≤ n → (∀ z ∈ ns, Builtin.Int.intBits z ≤ 1048576) → ∃ h', F0 [.ref 0] [.fro (ns.map .int)] = .ok (.bl true) h') ∧
        ∀ base : Heap, K.In base → base.Ns mainGlobals mg → (∀ p ∈ tf, LamX.TabB base mg (He.cT K p).1 (He.cT K p).2) → FnG l.prog w K mg base (L2.CX l.prog w) k fa fd [x] (spD (rx K mg (tabsOf K tf)) 1 F0)) :
    PySem.W.WalkO q loose XP (hookU m fs fn tf).says l.row.toRowW d [] (fun f vs => PySem.call f vs) := by
  refine Att.attach_callB hn hdf fun w s₀ s₁ mg mb fa o pm cd doc a vs ns G Y ho hd hcd hmg hobj hints hlen hbits hg => ?_
  obtain ⟨K, Z⟩ := Y
  obtain ⟨fd, F0, hb, hmath, hF⟩ := F w mg fa _ K Z.inK Z.c Z.nd G.T.g hmg
  have hk : K.lookup a = none := by
    cases e : K.lookup a with
    | none => rfl
    | some o =>
      have e2 := Z.inK a o e
      rw [hobj] at e2
      cases e2
      have z : isLst ({ cls := .type "list", data := .seq vs.toArray } : Obj) = false := Z.noL _ (lookup_mem e)
      have z2 : isLst ({ cls := .type "list", data := .seq vs.toArray } : Obj) = true := by show ("list" == "list") = true; rfl
      rw [z2] at z
      cases z
  have mem : ∀ {p : Addr × Addr}, p ∈ tf.map (He.cT K) → ∃ t ∈ tf, p = He.cT K t := fun h => by
    obtain ⟨t, ht, e⟩ := List.mem_map.mp h
    exact ⟨t, ht, e.symm⟩
  refine law_callT (cs := tf.map (He.cT K)) Z.inK G.T.g G.T.b G.T.builtins G.T.nolimit hg (fun p hp => ?_) (fun p hp => ?_) (fun p hp => ?_) G.T.bmain hobj hk hints (Nat.le_trans hlen hn2) hr (fun base h1 h2 h3 => hF base h1 h2 fun p hp => h3 _ (List.mem_map.mpr ⟨p, hp, rfl⟩)) hb (fun H hT hz => ?_) fun H e s' hx => ?_
  · obtain ⟨t, ht, rfl⟩ := mem hp
    exact Z.emp t ht
  · obtain ⟨t, ht, rfl⟩ := mem hp
    exact Z.out t ht
  · obtain ⟨t, ht, rfl⟩ := mem hp
    exact PySem.W.codeHd_of_K Z.inK (Z.hd t ht)
  · obtain ⟨ob, hz⟩ := hz
    obtain ⟨h', hm⟩ := hmath ns hlen hbits
    refine ⟨rfl, [a], [.ref 0], [.fro (ns.map .int)], .cons (.ref rfl) .nil, ⟨rfl, by simp, fun i o e => ?_, (fun p hp => ?_), trivial⟩, ?_⟩
    · cases i with
      | zero => cases e; exact ⟨a, rfl, ns.map .int, ob, hz, rel_ints ns⟩
      | succ i => simp at e
    · obtain ⟨t, ht, rfl⟩ := List.mem_map.mp hp
      exact LamX.TabS.nil (hT _ (List.mem_map.mpr ⟨t, ht, rfl⟩))
    · rw [hm]
      exact fun α' H' v x rh r => r.bl_inv
  · obtain ⟨_, _, _, _, _, _, _, _, _, _, _, _, z⟩ := hx
    exact z
end Mi

set_option Elab.async false
set_option linter.all false
set_option maxRecDepth 100000
set_option maxHeartbeats 2000000
namespace Mi
open PySem PySem.Spec PyProof.Rows L2
open PySem.W (Frag)
/-! ### bases of own exceptions -/
def leBase : List Value := [.type "LookupError", .type "Exception", .type "BaseException", .type "object"]
def oeBase : List Value := [.type "OverflowError", .type "ArithmeticError", .type "Exception", .type "BaseException", .type "object"]
theorem XBV : MiX.XBase "ValueError" "ValueError.__new__" "ValueError.__init__" He.veBase := ⟨PySem.F.excBase_ValueError, rfl, PySem.F.store_ValueError⟩
theorem XBL : MiX.XBase "LookupError" "LookupError.__new__" "LookupError.__init__" leBase := ⟨PySem.F.excBase_LookupError, rfl, PySem.F.store_LookupError⟩
theorem XBO : MiX.XBase "OverflowError" "OverflowError.__new__" "OverflowError.__init__" oeBase := ⟨PySem.F.excBase_OverflowError, rfl, PySem.F.store_OverflowError⟩
/-- such a class whose __init__ has no default -/
theorem xc_ok0 {K : Frag} {h : Heap} {mg : Str → Option Value} (X : K.In h) (G : h.Ns mainGlobals mg) {c f b : Str} {own : Bool} {T newId initId : String} {bm : List Value} (q : xcB c f b own T newId initId bm K = true)
    (hT : own = false → bootBuiltins b = some (.type T) ∧ b ≠ "__name__" ∧ typeOf (.type T) = pure (.type "type") ∧ Manifest.isStub T = false)
    (d1 : (f == ("__debug__" : Str)) = false) (d2 : f ≠ "self") (d3 : (b == ("__debug__" : Str)) = false) (d4 : b ≠ "self") (d5 : b ≠ f)
    {qual msg : Str} {j : Nat} {p1 p2 q1 q2 q3 q4 q5 q6 r1 r2 r3 r4 : Pos} (FD : ∃ fd, FunD K "__init__" qual (MiX.iA f [] p1 p2) (MiX.iB f b msg j q1 q2 q3 q4 q5 q6 r1 r2 r3 r4) (MiX.iS f b) [] [] (He.ma K (He.ga K c) "__init__") fd)
    (hcall : ∀ env : PySem.Env, ∃ pl, eval (.Call (.Attribute (.Name b q1) "__init__" q2) [.Name "self" q3, .Constant (.str msg) j q4] [] q5) env = (do
      let ov ← eval (.Name b q1) env
      standAt q2.atName
      let (f, first) ← holding [ov] (getMethod ov "__init__" pl)
      callWith q5 f first (backTo q5 (starEach [.Name "self" q3, .Constant (.str msg) j q4] env)) (backToKw q5 (keywordEach [] env))))
    (hbind : ∀ (kV doc pm : Value) (an : Option Addr) (cdv ct : Value) (us : List Value), us.length = 2 →
      bindArgs (PySem.W.fnOf "__init__" qual (MiX.iA f [] p1 p2) (MiX.iB f b msg j q1 q2 q3 q4 q5 q6 r1 r2 r3 r4) (MiX.iS f b) .none kV doc pm an cdv ct) ⟨us, []⟩ = pure ((["self", f] : List Str).zip us)) :
    MiX.XcTxt K mg c f b (He.ga K c) (He.ma K (He.ga K c) "__init__") newId initId bm := by
  unfold xcB at q
  obtain ⟨a1, q⟩ := He.ba q
  obtain ⟨a2, q⟩ := He.ba q
  obtain ⟨a3, q⟩ := He.ba q
  obtain ⟨a4, q⟩ := He.ba q
  obtain ⟨a5, q⟩ := He.ba q
  obtain ⟨a6, q⟩ := He.ba q
  obtain ⟨a7, q⟩ := He.ba q
  obtain ⟨a8, q⟩ := He.ba q
  obtain ⟨a9, q⟩ := He.ba q
  obtain ⟨a10, q⟩ := He.ba q
  obtain ⟨a11, q⟩ := He.ba q
  obtain ⟨a12, q⟩ := He.ba q
  obtain ⟨fd, FD⟩ := FD
  have b := FD.bindsN (ps := ["self", f]) fun kV doc pm an cdv ct us hl => hbind kV doc pm an cdv ct us hl
  refine { gC := PySem.W.mg_of X G (He.eqO_ok a1), ei := a2, hd := a3, sa := He.eqO_ok a4, ga := He.eqO_ok a5, gg := He.eqO_ok a6, noN := He.eqO_ok a7, iC := He.eqO_ok a8, tC := of_decide_eq_true a9, kC := a10, exC := of_decide_eq_true a11, tyC := of_decide_eq_true a12, fd_ := d1, fs_ := d2, bd_ := d3, bs_ := d4, bf_ := d5, base := base_ok X G q hT, fn := ?_ }
  refine ⟨qual, msg, [], j, p1, p2, q1, q2, q3, q4, q5, q6, r1, r2, r3, r4, _, fd, FD, hcall, fun us hl s KX => ?_⟩
  have := b s us KX (by rw [List.append_nil]; exact hl)
  rw [List.append_nil] at this
  exact this
/-! ### constants of the module -/
mutual
def litB (K : Frag) : D → Value → Bool
  | .int i, v => (match v with
    | .int j _ => decide (i = j)
    | _ => false)
  | .str x, v => (match v with
    | .str y _ => decide (x = y)
    | _ => false)
  | .bl b, v => (match v with
    | .bool c => decide (b = c)
    | _ => false)
  | .non, v => (match v with
    | .none => true
    | _ => false)
  | .tup ds, v => (match v with
    | .ref a => (match K.lookup a with
      | some ⟨.type c, _, .seq its _, _⟩ => decide (c = "tuple") && (decide (its.size ≤ sizeLine) && litsB K ds its.toList)
      | _ => false)
    | _ => false)
  | _, _ => false
def litsB (K : Frag) : List D → List Value → Bool
  | [], vs => vs.isEmpty
  | d :: ds, vs => (match vs with
    | v :: r => litB K d v && litsB K ds r
    | [] => false)
end
mutual
theorem lit_ok {K : Frag} : ∀ {d : D} {u : Value}, litB K d u = true → ∃ v : V, RelV v u ∧ ∀ (R : Rx) α H, R.K = K → RelD R α H d v
  | .int i, u, h => by
    unfold litB at h
    split at h
    · obtain rfl := of_decide_eq_true h
      exact ⟨.int i, ⟨_, rfl⟩, fun R α H _ => .int⟩
    · cases h
  | .str x, u, h => by
    unfold litB at h
    split at h
    · obtain rfl := of_decide_eq_true h
      exact ⟨.str x, ⟨_, rfl⟩, fun R α H _ => .str⟩
    · cases h
  | .bl b, u, h => by
    unfold litB at h
    split at h
    · obtain rfl := of_decide_eq_true h
      exact ⟨.bl b, rfl, fun R α H _ => .bl⟩
    · cases h
  | .non, u, h => by
    unfold litB at h
    split at h
    · exact ⟨.non, rfl, fun R α H _ => .non⟩
    · cases h
  | .tup ds, u, h => by
    unfold litB at h
    split at h
    · rename_i a
      split at h
      · rename_i c od its n sl lk
        obtain ⟨h1, h2⟩ := He.ba h
        obtain ⟨h3, h4⟩ := He.ba h2
        obtain rfl := of_decide_eq_true h1
        obtain ⟨vs, r1, r2⟩ := lits_ok h4
        exact ⟨.ref a, rfl, fun R α H e => .tup (by rw [e]; exact .inr ⟨_, its, _, lk, rfl, rfl, of_decide_eq_true h3, r1⟩) (r2 R α H e)⟩
      · cases h
    · cases h
  | .ref _, _, h => by unfold litB at h; cases h
  | .gl _, _, h => by unfold litB at h; cases h
  | .ty _, _, h => by unfold litB at h; cases h
  | .exc _ _ _ _, _, h => by unfold litB at h; cases h
  | .lam _, _, h => by unfold litB at h; cases h
  | .exv _ _ _ _, _, h => by unfold litB at h; cases h
theorem lits_ok {K : Frag} : ∀ {ds : List D} {us : List Value}, litsB K ds us = true → ∃ vs : List V, Vals vs us ∧ ∀ (R : Rx) α H, R.K = K → RelDs R α H ds vs
  | [], us, h => by
    unfold litsB at h
    cases us with
    | nil => exact ⟨[], .nil, fun R α H _ => .nil⟩
    | cons u r => cases h
  | d :: ds, us, h => by
    unfold litsB at h
    cases us with
    | nil => cases h
    | cons u r =>
      obtain ⟨h1, h2⟩ := He.ba h
      obtain ⟨v, r1, r2⟩ := lit_ok h1
      obtain ⟨vs, r3, r4⟩ := lits_ok h2
      exact ⟨v :: vs, .cons r1 r3, fun R α H e => .cons (r2 R α H e) (r4 R α H e)⟩
end
def litG (x : Str) (d : D) (K : Frag) : Bool := match PySem.W.nsIn K mainGlobals x with
  | some (some v) => litB K d v
  | _ => false
def LitR (K : Frag) (mg : Str → Option Value) (x : Str) (d : D) : Prop := ∃ (u : Value) (v : V), mg x = some u ∧ RelV v u ∧ ∀ (R : Rx) α H, R.K = K → RelD R α H d v
theorem litG_ok {K : Frag} {h : Heap} {mg : Str → Option Value} (X : K.In h) (G : h.Ns mainGlobals mg) {x : Str} {d : D} (q : litG x d K = true) : LitR K mg x d := by
  unfold litG at q
  split at q
  · rename_i u e
    obtain ⟨v, r1, r2⟩ := lit_ok q
    exact ⟨u, v, PySem.W.mg_of X G e, r1, r2⟩
  · cases q
theorem de_glit {X : Cx} {R : Rx} {W : WX} {pos : Pos} {x : Str} {d : D} (hg : Gl X x) (hK : R.K = X.K) (hm : LitR X.K X.mg x d) (hd : (x == ("__debug__" : Str)) = false := by decide) : DE X R W (.Name x pos) (eC d) := by
  obtain ⟨u, v, h1, h2, h3⟩ := hm
  exact de_const (pe_glob (v := v) hg h1 h2 hd) fun α H => h3 R α H hK
end Mi

set_option Elab.async false
set_option linter.all false
set_option maxRecDepth 100000
set_option maxHeartbeats 4000000
/-! ### an own exception made as a value: its arguments by place, by name, or none -/
namespace MiX
open PySem PySem.W PySem.Calls PyProof.Rows PySem.HandSPX
section
variable {prog : Program} {w : World} {A : Around} {E : Value → Shared → Prop} {R : Result → Shared → Prop} {h : Heap} {g : Array GenState} {d : Drawn} {t : Nat} {os : OsState}
variable {nm q : Str} {C N : Addr} {bs bm bmB : List Value} {hdct : Bool} {sn : List Str} {sub : List Value} {ab : Bool} {col : Option Bool} {dd : Option Addr} {k0 k1 k2 k3 k5 : Option Value} {B newId initId : String}
theorem check_new_kw {M : Model} (F : ExcBaseFacts B newId initId bmB) (hT : ∀ X : String, bm.contains (.type X) = bmB.contains (.type X)) {rs : List Value} {ks : List (Str × Value)} {Q : Unit → Shared → Prop}
    (at_ : h.get? C = some (excClassObj nm q C N bs bm hdct sn sub ab col dd k0 k1 k2 k3 k5 newId)) (hq : Q () ⟨h, g, d, t, os⟩) : wpAny M A (checkBuiltinCall newId ⟨.ref C :: rs, ks⟩) Q E ⟨h, g, d, t, os⟩ := by
  have inB : (Value.ref C :: bm).contains (.type B) = true := by rw [List.contains_cons, hT, F.hasB, Bool.or_true]
  have nostar := F.noStar
  simp only [checkBuiltinCall, F.newKind, F.newSplit, F.newRow]
  repeat (first | refine wpAny_loadPart_at at_ ?_ | (refine wpAny_isSubtype_exc at_ ?_; rw [inB]) | refine wpAny_staticBase_exc at_ ?_ | refine wpAny_madeBy_exc at_ ?_ | simp only [bne_self_eq_false, Bool.false_eq_true, if_false] | wp_step)
  exact hq
theorem new_kw (F : ExcBaseFacts B newId initId bmB) (hT : ∀ X : String, bm.contains (.type X) = bmB.contains (.type X)) {rs : List Value} {ks : List (Str × Value)}
    (at_ : h.get? C = some (excClassObj nm q C N bs bm hdct sn sub ab col dd k0 k1 k2 k3 k5 newId)) (short : rs.length ≤ sizeLine)
    (hq : R (.ok (.ret (.ref (h.objs.size + 1)))) ⟨(h.push (kdv_tup rs)).push (excO C h.objs.size), g, d, t, os⟩) :
    codeAny (model prog w) A (.builtin newId ⟨.ref C :: rs, ks⟩) R ⟨h, g, d, t, os⟩ := by
  have ends := F.ends
  have inB : (Value.ref C :: bm).contains (.type B) = true := by rw [List.contains_cons, hT, F.hasB, Bool.or_true]
  have notA : (Value.ref C :: bm).contains (.type "AttributeError") = false := by rw [List.contains_cons, hT, F.noAttr]; rfl
  have notN : (Value.ref C :: bm).contains (.type "NameError") = false := by rw [List.contains_cons, hT, F.noName]; rfl
  refine codeAny_builtinAt F.entry ?_
  unfold Builtin.«BaseException.__new__»
  refine PySem.wpAt_bind ?_
  show PySem.wpAt _ _ _ (stack >>= _) _ _ _
  refine PySem.wpAt_bind (PySem.wpAt_stack fun p below => PySem.wpAt_of_wpAny ?_)
  wp_walk
  refine PySem.wpAt_of_wpAny ?_
  rw [F.owner]
  repeat (first | with_reducible refine wpAny_madeHere_exc F.canon at_ ?_ | with_reducible refine wpAny_loadPart_at at_ ?_ | (with_reducible refine wpAny_isSubtype_exc at_ ?_; first | rw [inB] | rw [notA] | rw [notN]) | wp_step)
  show R _ _
  rw [Heap.size_push]
  exact hq
theorem type_call_kw (F : ExcBaseFacts B newId initId bmB) (hT : ∀ X : String, bm.contains (.type X) = bmB.contains (.type X)) {rs : List Value} {ks : List (Str × Value)} {fI : Addr} {Q : Fin → Shared → Prop}
    (at_ : h.get? C = some (excClassObj nm q C N bs bm hdct sn sub ab col dd k0 k1 k2 k3 k5 newId))
    (hi : W.Looks (model prog w) h (typeLookup (.ref C) "__init__") (some (.ref fI))) (hb : ∀ self, W.Looks (model prog w) h (bindSpecial (.ref fI) self) (.ref fI, [self])) (short : rs.length ≤ sizeLine)
    (hq : codeAny (model prog w) A (.call (.ref fI) ⟨.ref (h.objs.size + 1) :: rs, ks⟩)
      (fun r s' => match r with | .ok (.ret v) => v = .none ∧ Q (.done (.ret (.ref (h.objs.size + 1)))) s' | .ok _ => False | .error e => E e s') ⟨(h.push (kdv_tup rs)).push (excO C h.objs.size), g, d, t, os⟩) :
    wpAny (model prog w) A (Builtin.«type.__call__» ⟨.ref C :: rs, ks⟩) Q E ⟨h, g, d, t, os⟩ := by
  repeat (first | with_reducible refine wpAny_loadPart_at at_ ?_ | with_reducible refine wpAny_madeBy_exc at_ ?_ | wp_step)
  refine codeAny_call_builtin_code (Code.quiet_builtin _ F.quiet) (check_new_kw F hT at_ ?_)
  refine new_kw F hT at_ short ?_
  show wpAny _ _ _ _ _ _
  have more : ∀ b o, h.get? b = some o → ((h.push (kdv_tup rs)).push (excO C h.objs.size)).get? b = some o := fun b o e => Heap.get?_push_of_some _ (Heap.get?_push_of_some _ e)
  have at2 := more _ _ at_
  have new_ : ((h.push (kdv_tup rs)).push (excO C h.objs.size)).get? (h.objs.size + 1) = some (excO C h.objs.size) := by heap_get
  have self_ : (Value.ref C :: bm).contains (.ref C) = true := by simp
  have i2 := hi.keeps more
  have b2 := (hb (.ref (h.objs.size + 1))).keeps more
  unfold isInstance
  repeat (first | with_reducible refine wpAny_loadPart_at new_ ?_ | (with_reducible refine wpAny_isSubtype_exc at2 ?_; rw [self_]) | wp_step)
  show wpAny _ _ (typeLookup (.ref C) _) _ _ _
  refine i2.at ?_
  refine wpAny_holding (wpAny_bind (b2.at ?_))
  refine wpAny_bind (wpAny_call (codeAny_mono hq fun r s' z => ?_))
  rcases r with e | (v | _ | _ | _) <;> first | exact z | exact z.elim | skip
  obtain ⟨rfl, z⟩ := z
  first
    | exact wpAny_pure (wpAny_pure z)
    | (wp_walk; exact z)
theorem type_check_kw {M : Model} {rs : List Value} {ks : List (Str × Value)} {Q : Unit → Shared → Prop} (at_ : h.get? C = some (excClassObj nm q C N bs bm hdct sn sub ab col dd k0 k1 k2 k3 k5 newId)) (hq : Q () ⟨h, g, d, t, os⟩) :
    wpAny M A (checkBuiltinCall "type.__call__" ⟨.ref C :: rs, ks⟩) Q E ⟨h, g, d, t, os⟩ := by
  have f3 := tc_sub
  have isT : (⟨h, g, d, t, os⟩ : Shared).TypeIs (.ref C) "type" := ⟨_, at_, rfl⟩
  simp only [checkBuiltinCall, tc_kind, tc_split]
  repeat (any_goals (first | assumption | with_reducible refine wpAny_loadPart_at at_ ?_ | with_reducible refine wpAny_onRaise ?_ | with_reducible refine wpAny_map ?_ | wp_step))
theorem call_kw (F : ExcBaseFacts B newId initId bmB) (hT : ∀ X : String, bm.contains (.type X) = bmB.contains (.type X)) {rs : List Value} {ks : List (Str × Value)} {fI : Addr}
    (at_ : h.get? C = some (excClassObj nm q C N bs bm hdct sn sub ab col dd k0 k1 k2 k3 k5 newId))
    (hi : W.Looks (model prog w) h (typeLookup (.ref C) "__init__") (some (.ref fI))) (hb : ∀ self, W.Looks (model prog w) h (bindSpecial (.ref fI) self) (.ref fI, [self])) (short : rs.length ≤ sizeLine)
    (hq : codeAny (model prog w) (A.under (.builtin "type.__call__" ⟨.ref C :: rs, ks⟩)) (.call (.ref fI) ⟨.ref (h.objs.size + 1) :: rs, ks⟩) (W.InitBack (h.objs.size + 1) R) ⟨(h.push (kdv_tup rs)).push (excO C h.objs.size), g, d, t, os⟩) :
    codeAny (model prog w) A (.call (.ref C) ⟨rs, ks⟩) R ⟨h, g, d, t, os⟩ := by
  have f1 := tc_lookup
  have f2 := tc_bind (.ref C)
  have isT : (⟨h, g, d, t, os⟩ : Shared).TypeIs (.ref C) "type" := ⟨_, at_, rfl⟩
  refine codeAny_of_tree ?_
  show wpAny _ _ (callAny (.ref C) _) _ _ _
  repeat (any_goals (first | assumption | with_reducible refine wpAny_loadPart_at at_ ?_ | wp_step))
  refine ⟨rfl, ?_⟩
  refine codeAny_call_builtin_at (Code.quiet_builtin _ (by decide +kernel)) entry_typeCall (type_check_kw at_ (type_call_kw F hT at_ hi hb short ?_))
  refine codeAny_mono hq fun r s' z => ?_
  rcases r with e | (v | _ | _ | _) <;> exact z
/-- the base's __init__ lays the args anew -/
theorem init_args (F : ExcBaseFacts B newId initId bmB) (hT : ∀ X : String, bm.contains (.type X) = bmB.contains (.type X)) {e t0 : Addr} {rs : List Value}
    (at_ : h.get? C = some (excClassObj nm q C N bs bm hdct sn sub ab col dd k0 k1 k2 k3 k5 newId)) (he : h.get? e = some (excO C t0)) (short : rs.length ≤ sizeLine)
    (hq : ∀ h' t1, (∀ b o, b ≠ e → h.get? b = some o → h'.get? b = some o) → h'.get? e = some (excO C t1) → h.objs.size ≤ t1 → t1 ≠ e → h'.get? t1 = some (kdv_tup rs) → R (.ok (.ret .none)) ⟨h', g, d, t, os⟩) :
    codeAny (model prog w) A (.call (.builtin initId) ⟨.ref e :: rs, []⟩) R ⟨h, g, d, t, os⟩ := by
  refine codeAny_call_builtin F.init.plain F.initEntry (check_init_own F hT at_ he rfl ?_)
  wp_walk
  have ne : e ≠ h.objs.size := Nat.ne_of_lt (Heap.lt_size he)
  refine hq _ h.objs.size (fun b o hb ho => ?_) ?_ (Nat.le_refl _) (Ne.symm ne) ?_
  · rw [Heap.get?_update_other _ _ (Ne.symm hb)]
    exact Heap.get?_push_of_some _ ho
  · rw [Heap.get?_update_self _ (Heap.get?_push_of_some _ he) rfl]
    rfl
  · rw [Heap.get?_update_other _ _ ne]
    exact Heap.get?_push_size _ rfl
end
end MiX

set_option Elab.async false
set_option linter.all false
set_option maxRecDepth 100000
set_option maxHeartbeats 4000000
namespace MiX
open PySem PySem.W PySem.Calls PyProof.Rows PySem.HandSPX
/-- how the one argument is given -/
inductive Am where
  | pos | kw | dfl
deriving DecidableEq
def Am.us (v : Value) : Am → List Value
  | .pos => [v]
  | _ => []
def Am.ks (f : Str) (v : Value) : Am → List (Str × Value)
  | .kw => [(f, v)]
  | _ => []
theorem Am.short {v : Value} {m : Am} : (m.us v).length ≤ sizeLine := by
  rw [sizeLine_eq]
  cases m <;> simp [Am.us]
/-- the class's text with its message, its binding each way; od: it has a default -/
structure XcV (K : Frag) (mg : Str → Option Value) (c f b m : Str) (od : Bool) (C fI : Addr) (newId initId : String) (bmB : List Value) : Prop where
  T : XcTxt K mg c f b C fI newId initId bmB
  ga : findIn K (.ref C) "__class__" = some (some (.builtin "object.__class__"))
  st : findIn K (.ref C) "__str__" = some (some (.builtin "BaseException.__str__"))
  mo : mroIn K C (.type "object") = some true
  fn : ∃ (qual : Str) (dfl : List Expr) (j : Nat) (p1 p2 q1 q2 q3 q4 q5 q6 r1 r2 r3 r4 : Pos) (dvs : List L2.V) (fd : FuncData), L2.FunD K "__init__" qual (iA f dfl p1 p2) (iB f b m j q1 q2 q3 q4 q5 q6 r1 r2 r3 r4) (iS f b) dvs [] fI fd ∧
    (∀ env : Env, ∃ pl, eval (.Call (.Attribute (.Name b q1) "__init__" q2) [.Name "self" q3, .Constant (.str m) j q4] [] q5) env = (do
      let ov ← eval (.Name b q1) env
      standAt q2.atName
      let (f, first) ← holding [ov] (getMethod ov "__init__" pl)
      callWith q5 f first (backTo q5 (starEach [.Name "self" q3, .Constant (.str m) j q4] env)) (backToKw q5 (keywordEach [] env)))) ∧
    ∀ (am : Am) (x v : Value) (s : Shared), (am = .dfl → od = true ∧ v = .none) → K.In s.heap → BindsTo s fd ⟨x :: am.us v, am.ks f v⟩ ((["self", f] : List Str).zip [x, v])
structure MadeV (h h' : Heap) (e C d : Addr) (f : Str) (v : Value) (m : Str) : Prop where
  keep : ∀ b o, h.get? b = some o → h'.get? b = some o
  new : h.objs.size ≤ e
  obj : ∃ (t : Addr) (tk : Tok), h'.get? e = some { cls := .ref C, dict := some d, data := .fields #[.ref t, .none, .none, .none, .bool false, .none] } ∧ t ≠ e ∧ t ≠ d ∧ h.objs.size ≤ t ∧ h'.get? t = some (kdv_tup [.str m tk])
  dbig : h.objs.size ≤ d
  dne : d ≠ e
  ns : h'.Ns1 d (fun y => if y = f then some v else none)
section
variable {prog : Program} {w : World} {A : Around} {E : Value → Shared → Prop} {R : Result → Shared → Prop} {s : Shared} {K : Frag} {mg : Str → Option Value} {C fI : Addr} {c f b m : Str} {od : Bool} {B newId initId : String} {bmB : List Value} {am : Am} {v : Value}
theorem v_init (XB : XBase B newId initId bmB) (Z : XcV K mg c f b m od C fI newId initId bmB) {x t0 : Addr} (X : K.In s.heap) (hlim : s.heap.NoLimit) (G : s.heap.Ns mainGlobals mg) (BL : ∃ mb, s.heap.Ns builtinsNs mb ∧ ∀ x : Str, x ≠ "__name__" → mb x = bootBuiltins x)
    (hx : s.heap.get? x = some (excO C t0)) (hnx : K.lookup x = none) (hroom : A.depth < recursionLimit) (how : am = .dfl → od = true ∧ v = .none)
    (hq : ∀ h' tk dx t1 km, (∀ b o, b ≠ x → s.heap.get? b = some o → h'.get? b = some o) → h'.get? x = some { cls := .ref C, dict := some dx, data := .fields #[.ref t1, .none, .none, .none, .bool false, .none] } → t1 ≠ x → t1 ≠ dx → s.heap.objs.size ≤ t1 → h'.get? t1 = some (kdv_tup [.str m km]) →
      s.heap.objs.size ≤ dx → dx ≠ x → h'.Ns1 dx (fun y => if y = f then some v else none) → R (.ok (.ret .none)) { s with heap := h', toks := tk }) :
    codeAny (model prog w) A (.call (.ref fI) ⟨.ref x :: am.us v, am.ks f v⟩) R s := by
  have T := Z.T
  obtain ⟨qual, dfl, j, p1, p2, q1, q2, q3, q4, q5, q6, r1, r2, r3, r4, dvs, fd, FD, hcall, hbind⟩ := Z.fn
  obtain ⟨oc, od2, dV, kV, doc, pm, an, cdv, ct, osl, rfl, ho, hcd, _, _⟩ := FD.ex
  obtain ⟨nm, N, q, bs, bm, hdct, sn, sub, ab, col, dd, k0, k1, k2, k3, k5, hC, hbm⟩ := exc_cls T.ei
  have hcl : clsIn K C = some { name := nm, bases := bs, mro := .ref C :: bm, ns := N, qualname := q, hasDict := hdct, slotNames := sn, subclasses := sub, abstract := ab, collection := col, hasDel := false } := by unfold clsIn; rw [hC] <;> rfl
  have hhd : hdct = true := by
    have := T.hd
    unfold hasDictIn at this
    rw [hcl] at this
    exact this
  subst hhd
  refine Att.call_fn (binds := [("self", .ref x), (f, v)]) X hlim ho hcd hroom (hbind am (.ref x) v s how X) ?_ (fun s₁ IC => ?_) rfl rfl rfl
  · show (((iS f b).names.lookup ("self" : Str) == some .local || _) && (((iS f b).names.lookup f == some .local || _) && true)) = true
    rw [look_self, look_f T.fs_]
    rfl
  obtain ⟨h₁, tk₁, rfl⟩ := IC.toInCall.same
  have k : ∀ b o, s.heap.get? b = some o → h₁.get? b = some o := IC.toInCall.keep
  have hn := IC.toInCall.ns
  have hxL : s.heap.objs.size ≠ x := Nat.ne_of_gt (Heap.lt_size hx)
  have X₁ : K.In h₁ := X.keeps k
  have hx₁ := k _ _ hx
  have G₁ : h₁.Ns mainGlobals mg := G.keeps k
  obtain ⟨mb, B1, B2⟩ := BL
  have B₁ : h₁.Ns builtinsNs mb := B1.keeps k
  have mS : (bindL (envOfC qual (iS f b) s.heap.objs.size fI cdv).kindOf [("self", .ref x), (f, v)] fun _ => none) "self" = some (.ref x) :=
    L2.bindL_get (kindOf := (envOfC qual (iS f b) s.heap.objs.size fI cdv).kindOf) (P := [("self" : Str), f]) (vs := [.ref x, v]) (i := 0) (x := ("self" : Str)) (v := .ref x) (m := fun _ => none) (by simp [Ne.symm T.fs_]) rfl rfl look_self
  have mF : (bindL (envOfC qual (iS f b) s.heap.objs.size fI cdv).kindOf [("self", .ref x), (f, v)] fun _ => none) f = some v :=
    L2.bindL_get (kindOf := (envOfC qual (iS f b) s.heap.objs.size fI cdv).kindOf) (P := [("self" : Str), f]) (vs := [.ref x, v]) (i := 1) (x := f) (v := v) (m := fun _ => none) (by simp [Ne.symm T.fs_]) rfl rfl (look_f T.fs_)
  show wpAny _ _ (execs _ _) _ _ _
  refine wpAny_execs_cons (wpAny_Expr_any ?_)
  obtain ⟨pl, hcl2⟩ := hcall (envOfC qual (iS f b) s.heap.objs.size fI cdv)
  refine PySem.W.methodCall_KW (pl := pl) ?_ hcl2
  have ldB : ∀ {Q : Value → Shared → Prop} {E' : Value → Shared → Prop}, (∀ ov, (∀ (s2 : Shared) (Q2 : Value × List Value → Shared → Prop) (E2 : Value → Shared → Prop), s2.heap = h₁ → Q2 (.builtin initId, []) { s2 with toks := s2.toks + 1 } → wpAny (model prog w) (A.deeper (envOfC qual (iS f b) s.heap.objs.size fI cdv)) (getMethod ov "__init__" pl) Q2 E2 s2) → Q ov { s with heap := h₁, toks := tk₁ }) →
      wpAny (model prog w) (A.deeper (envOfC qual (iS f b) s.heap.objs.size fI cdv)) (eval (.Name b q1) (envOfC qual (iS f b) s.heap.objs.size fI cdv)) Q E' { s with heap := h₁, toks := tk₁ } := fun {Q E'} hQ => by
    rcases T.base with ⟨CB, m1, m2, m3, m4⟩ | ⟨T', m1, m2, m3, m4, m5, m6⟩
    · refine Calls.Name_function_global rfl (look_b T.bs_ T.bf_) (Calls.loadGlobal_global G₁ m1 (hQ _ fun s2 Q2 E2 eh hq2 => ?_)) T.bd_
      have X2 : K.In s2.heap := by rw [eh]; exact X₁
      exact method_cls X2 m2 (cls_value X2 m3 m4 XB.hh hq2)
    · refine Calls.Name_function_global rfl (look_b T.bs_ T.bf_) (Calls.loadGlobal_builtin G₁ m1 B₁ ((B2 b m3).trans m2) (hQ _ fun s2 Q2 E2 eh hq2 => ?_)) T.bd_
      have X2 : K.In s2.heap := by rw [eh]; exact X₁
      have LO : Looks (model prog w) s2.heap (opaqueClassAbove (.type T')) none := Looks.of_pure (by unfold opaqueClassAbove; dsimp only; rw [m5]; rfl)
      have L0 : Looks (model prog w) s2.heap (typeOf (.type T')) (.type "type") := Looks.of_pure m4
      have hg : findIn K (.type "type") "__getattribute__" = some (some (.builtin "type.__getattribute__")) := type_tga
      unfold getMethod specialOf
      refine wpAny_bind (wpAny_bind (L0.here ((looks_findIn X2 hg).here ?_)))
      dsimp only
      rw [if_pos canon_tga]
      refine wpAny_bind (wpAny_mono (Q := fun v => Q2 (v, [])) (E := E2) ?_ (fun _ _ z => wpAny_pure z) fun _ _ z => z)
      exact cls_open X2 LO L0 hg (looks_hook X2 (r := none) (by rfl)) (by show subIn K _ _ = _; rfl) m6
        (wpAny_pure (by show wpAny _ _ (handedOut _) _ _ _; rw [handedOut_of XB.hh]; exact wpAny_pure hq2))
  refine ldB fun ov hov => hov _ _ _ rfl ?_
  show wpAny _ _ (callWith q5 (Value.builtin initId) [] (backTo q5 (starEach [.Name "self" q3, .Constant (.str m) j q4] _)) []) _ _ _
  refine PyProof.Rows.callWith_method1 (Calls.spliced_cons (ldL hn mS (Calls.spliced_cons (Calls.Constant_str (pos := q4) (k := j) (Calls.spliced_nil ?_))) rfl look_self (by decide))) (by rfl) (by rfl)
  show wpAny _ _ (call (.builtin initId) [.ref x, .str m _]) _ _ _
  refine wpAny_call (init_args XB.F (fun Y => excTail_contains Y bm hbm) (X₁ _ _ hC) hx₁ (by rw [sizeLine_eq]; exact (by decide : 1 ≤ 16777216)) fun h₂ t1 k₂ hx₂ bt nt ht => ?_)
  have X₂ : K.In h₂ := kept_but X₁ hnx k₂
  have hn₂ : h₂.Ns s.heap.objs.size _ := hn.at fun o e => k₂ _ o hxL e
  show wpAny _ _ (execs _ _) _ _ _
  refine wpAny_execs_cons (plainObj_wpAny_Assign_Attribute ?_)
  refine ldL hn₂ mF (ldL hn₂ mS ?_ rfl look_self (by decide)) rfl (look_f T.fs_) T.fd_
  refine set_plain X₂ (ox := excO C t1) (od := none) ⟨hx₂, rfl, rfl, trivial⟩ T.sa ?_
  refine osa_new XB.S X₂ hx₂ hcl ⟨bm, rfl, hbm⟩ rfl T.noN (fun h₃ tk₃ dx k₃ dn dne hx₃ hn₃ => ?_)
  show wpAny _ _ (execs _ _) _ _ _
  have z : s.heap.objs.size < h₂.objs.size := hn₂.lt
  exact wpAny_execs_nil (hq h₃ tk₃ dx t1 _ (fun b o hb e => k₃ b o hb (k₂ b o hb (k b o e))) hx₃ nt (Nat.ne_of_lt (Nat.lt_of_lt_of_le (Heap.lt_size ht) dn)) (Nat.le_of_lt (Nat.lt_of_lt_of_le (IC.toInCall.ns.lt) bt)) (k₃ _ _ nt ht) (Nat.le_of_lt (Nat.lt_of_lt_of_le z dn)) dne hn₃)
theorem v_made (XB : XBase B newId initId bmB) (Z : XcV K mg c f b m od C fI newId initId bmB) (X : K.In s.heap) (hlim : s.heap.NoLimit) (G : s.heap.Ns mainGlobals mg) (BL : ∃ mb, s.heap.Ns builtinsNs mb ∧ ∀ x : Str, x ≠ "__name__" → mb x = bootBuiltins x) (hroom : A.depth + 1 < recursionLimit)
    (how : am = .dfl → od = true ∧ v = .none) (hq : ∀ h' tk e d, MadeV s.heap h' e C d f v m → R (.ok (.ret (.ref e))) { s with heap := h', toks := tk }) :
    codeAny (model prog w) A (.call (.ref C) ⟨am.us v, am.ks f v⟩) R s := by
  have T := Z.T
  obtain ⟨nm, N, q, bs, bm, hdct, sn, sub, ab, col, dd, k0, k1, k2, k3, k5, hC, hbm⟩ := exc_cls T.ei
  obtain ⟨hp, g, dr, tk, os⟩ := s
  have k : ∀ b o, hp.get? b = some o → ((hp.push (kdv_tup (am.us v))).push (excO C hp.objs.size)).get? b = some o := fun b o e => Heap.get?_push_of_some _ (Heap.get?_push_of_some _ e)
  have hget : ((hp.push (kdv_tup (am.us v))).push (excO C hp.objs.size)).get? (hp.objs.size + 1) = some (excO C hp.objs.size) := by heap_get
  have hnx : K.lookup (hp.objs.size + 1) = none := by
    cases e : K.lookup (hp.objs.size + 1) with
    | none => rfl
    | some o =>
      have z : hp.get? (hp.objs.size + 1) = some o := X _ _ e
      exact absurd (Nat.lt_of_succ_lt (Heap.lt_size z)) (Nat.lt_irrefl _)
  obtain ⟨mb, B1, B2⟩ := BL
  refine call_kw XB.F (fun Y => excTail_contains Y bm hbm) (X _ _ hC) (looks_findIn X T.iC) (fun self => bind_fn X self T.tC) Am.short ?_
  refine v_init (s := ⟨(hp.push (kdv_tup (am.us v))).push (excO C hp.objs.size), g, dr, tk, os⟩) XB Z (X.keeps k) (hlim.keeps k) (G.keeps k) ⟨mb, B1.keeps k, B2⟩ hget hnx ?_ how fun h' tk' dx t1 km k' hx nt nd bt ht dn dne hns => ?_
  · show A.depth + 1 < recursionLimit
    exact hroom
  · have old : ∀ b o, hp.get? b = some o → h'.get? b = some o := fun b o e => k' b o (Nat.ne_of_lt (Nat.lt_succ_of_lt (Heap.lt_size e))) (k b o e)
    have z : hp.objs.size + 1 + 1 ≤ dx := by
      first
        | (simpa only [Heap.size_push] using dn)
        | exact dn
        | (have q := dn; rw [Heap.size_push, Heap.size_push] at q; exact q)
    have bt' : hp.objs.size ≤ t1 := Nat.le_trans (Nat.le_trans (Nat.le_succ _) (Nat.le_succ _)) (show hp.objs.size + 1 + 1 ≤ t1 by
      first
        | (simpa only [Heap.size_push] using bt)
        | exact bt
        | (have q := bt; rw [Heap.size_push, Heap.size_push] at q; exact q))
    exact ⟨rfl, hq h' tk' (hp.objs.size + 1) dx ⟨old, Nat.le_succ _, ⟨t1, km, hx, nt, nd, bt', ht⟩, Nat.le_trans (Nat.le_trans (Nat.le_succ _) (Nat.le_succ _)) z, dne, hns⟩⟩
end
end MiX

set_option Elab.async false
set_option linter.all false
set_option maxRecDepth 100000
set_option maxHeartbeats 4000000
namespace Mi
open PySem PySem.Spec PyProof.Rows L2
open MiX (Am XcV MadeV)
/-! ### an own exception as a value -/
theorem exV_ok {P : Program} {w : World} {H : Hp} {h : Heap} {a d t : Addr} {cls : Value} {oe : Obj} {vs : Array Value} (e : h.get? a = some oe) (e1 : oe.cls = cls) (e2 : oe.dict = some d) (e3 : oe.data = .fields vs) (e4 : vs[0]? = some (.ref t)) (e5 : vs[1]? = some .none) : ObjOk P w H h a (ExV cls a d t) :=
  ⟨⟨oe, vs, e, e1, e2, e3, e4, e5⟩, ⟨oe, e⟩, fun _ _ ⟨oe, vs, e, e1, e2, e3, e4, e5⟩ k => ⟨oe, vs, k _ e, e1, e2, e3, e4, e5⟩⟩
@[simp] def eMk (c f m : Str) (fe : Fe) : Fe := fun env h => (fe env h).bind fun v h1 => .ok (.exv c f v m) h1
section
variable {X : Cx} {R : Rx} {W : WX} {C fI : Addr} {c f b m : Str} {od : Bool} {B newId initId : String} {bmB : List Value} {pins : List (Addr × Obj)} {σ : St} {H : Hp} {s : Shared} {Q : VK} {α : List Addr} {h : Hd} {k : Nat}
theorem run_mk (am : Am) (XB : MiX.XBase B newId initId bmB) (Z : XcV X.K X.mg c f b m od C fI newId initId bmB) (hr : RoomG k X.A) (hR : R.mg = X.mg) {v : Value} {vv : V} {d : D} (I : Inv X pins σ H s) (rv : RelV vv v) (rd : RelD R α H d vv) (rh : RH R α h H) (how : am = .dfl → od = true ∧ v = .none)
    (fi : FinE R W α H σ (.ok (.exv c f d m) h) Q) : codeAny (model X.prog X.w) X.A (.call (.ref C) ⟨am.us v, am.ks f v⟩) (fun r s' => ∃ u, r = .ok (.ret u) ∧ EP X pins σ Q u s') s := by
  have nolim := I.nolimit
  have G0 : s.heap.Ns mainGlobals X.mg := I.ok.mod.glob.keeps I.bk
  have B0 : ∃ mb, s.heap.Ns builtinsNs mb ∧ ∀ x : Str, x ≠ "__name__" → mb x = bootBuiltins x := by
    obtain ⟨mb, b1, b2⟩ := I.ok.mod.blt
    exact ⟨mb, b1.keeps I.bk, b2⟩
  obtain ⟨hp, g, dr, tk, os⟩ := s
  refine MiX.v_made XB Z I.kIn nolim G0 B0 (by have := hr.rm.dp; omega) how fun h' tk' e dd M => ⟨.ref e, rfl, ?_⟩
  obtain ⟨t, km, oe, nt, ntd, bt, ot⟩ := M.obj
  have ns := M.ns
  obtain ⟨G1, g1, g2⟩ := restrict h' fun b => decide (b ≠ e)
  obtain ⟨G0, g3, g4⟩ := restrict G1 fun b => decide (b ≠ t)
  have k1 : ∀ b, b ≠ e → G1.get? b = h'.get? b := fun b hb => g1 b (decide_eq_true hb)
  have k0 : ∀ b, b ≠ t → G0.get? b = G1.get? b := fun b hb => g3 b (decide_eq_true hb)
  have ge : G1.get? e = none := g2 e (by simp)
  have gt : G0.get? t = none := g4 t (by simp)
  have sub1 : ∀ b o, G1.get? b = some o → h'.get? b = some o := fun b o q => by
    by_cases hb : b = e
    · rw [hb, ge] at q; cases q
    · rw [← k1 b hb]; exact q
  have sub0 : ∀ b o, G0.get? b = some o → G1.get? b = some o := fun b o q => by
    by_cases hb : b = t
    · rw [hb, gt] at q; cases q
    · rw [← k0 b hb]; exact q
  have old : ∀ b o, hp.get? b = some o → G0.get? b = some o := fun b o q => (k0 b (Nat.ne_of_lt (Nat.lt_of_lt_of_le (Heap.lt_size q) bt))).trans ((k1 b (Nat.ne_of_lt (Nat.lt_of_lt_of_le (Heap.lt_size q) M.new))).trans (M.keep b o q))
  have nd : H dd = none := I.hok.fresh M.dbig
  have ne0 : H e = none := I.hok.fresh M.new
  have nt0 : H t = none := I.hok.fresh bt
  have ob : ObjOk X.prog X.w (upd H dd (.xd [(f, vv)])) G0 dd (.xd [(f, vv)]) := ⟨_, ns.at (fun o q => (k0 dd (Ne.symm ntd)).trans ((k1 dd M.dne).trans q)), fun g => relO_x rv g⟩
  have J : Inv X pins σ (upd H dd (.xd [(f, vv)])) ⟨G0, g, dr, tk', os⟩ := I.laid (t' := tk') old M.dbig ob
  have nt1 : upd H dd (.xd [(f, vv)]) t = none := by rw [upd_ne ntd]; exact nt0
  have J1 : Inv X pins σ (upd (upd H dd (.xd [(f, vv)])) t (.tup [.str m])) ⟨G1, g, dr, tk', os⟩ := J.laidN (t' := tk') sub0 gt nt1 ⟨by rw [lineEq]; exact (by simp), _, .cons ⟨km, rfl⟩ .nil, ⟨_, (k1 t nt).trans ot, rfl, _, rfl⟩⟩
  have ne1 : upd (upd H dd (.xd [(f, vv)])) t (.tup [.str m]) e = none := by rw [upd_ne (Ne.symm nt), upd_ne (Ne.symm M.dne)]; exact ne0
  have J2 : Inv X pins σ (upd (upd (upd H dd (.xd [(f, vv)])) t (.tup [.str m])) e (ExV (.ref C) e dd t)) ⟨h', g, dr, tk', os⟩ := J1.laidN (t' := tk') sub1 ge ne1 (exV_ok oe rfl rfl rfl rfl rfl)
  have x1 : Ext α H α (upd H dd (.xd [(f, vv)])) := Ext.side nd
  have x2 : Ext α (upd H dd (.xd [(f, vv)])) α (upd (upd H dd (.xd [(f, vv)])) t (.tup [.str m])) := Ext.side nt1
  have x3 : Ext α (upd (upd H dd (.xd [(f, vv)])) t (.tup [.str m])) α (upd (upd (upd H dd (.xd [(f, vv)])) t (.tup [.str m])) e (ExV (.ref C) e dd t)) := Ext.side ne1
  refine ⟨.ref e, _, J2, rfl, fi α _ (.ref e) ((x1.trans x2).trans x3) (((rh.side nd).side nt1).side ne1) ?_⟩
  unfold RelD
  exact ⟨e, dd, t, C, vv, rfl, by rw [hR]; exact Z.T.gC, upd_same, by rw [upd_ne nt, upd_same], by rw [upd_ne M.dne, upd_ne (Ne.symm ntd), upd_same], RelD.ext ((x1.trans x2).trans x3) _ _ rd⟩
variable {p pos : Pos}
theorem de_mkP {e : Expr} {fe : Fe} (XB : MiX.XBase B newId initId bmB) (Z : XcV X.K X.mg c f b m od C fI newId initId bmB) (hr : RoomG k X.A) (hR : R.mg = X.mg) (he : DE X R W e fe) (hg : Gl X c) (hcd : (c == ("__debug__" : Str)) = false := by decide)
    (hs : starEach [e] X.env = (false, eval e X.env) :: starEach [] X.env := by rfl) (hpl : (backTo pos (starEach [] X.env)).any (·.1) = false := by rfl) : DE X R W (.Call (.Name c p) [e] [] pos) (eMk c f m fe) := by
  refine ⟨fun pins s σ H Q I h => ?_⟩
  obtain ⟨α, env, hp, re, rh, fi⟩ := h
  have ha : PA X [e] (tCons (tE R W fe) tNil) := pa_cons he pa_nil hs
  refine wpAny_Call_Name_kw (ld_glob I hg Z.T.gC ?_ hcd)
  refine PySem.W.callWith_K (h₀ := X.base) I.ok.mod.kin Z.T.kC (thn (ha.run pos pins s σ H (fun vs H1 => ∃ v, vs = [v] ∧ ∃ d α1 h1, Ext α H α1 H1 ∧ RH R α1 h1 H1 ∧ RelD R α1 H1 d v ∧ FinE R W α1 H1 σ (Res.ok (D.exv c f d m) h1) Q) I ?_) fun us s1 ⟨vs, H1, I1, r1, q1⟩ => ⟨I1.kIn, ?_⟩) hs hpl
  · exact ⟨α, env, hp, re, rh, (Fin.split (Rl := RelD R) (g := fun v h1 => (Res.ok (D.exv c f v m) h1 : Res D)) fi).imp fun v H1 hq => ⟨v, rfl, by
      obtain ⟨d, α1, h1, _, x1, rh1, rd, f1⟩ := hq
      exact ⟨d, α1, h1, x1, rh1, rd, f1⟩⟩⟩
  · obtain ⟨v, rfl, d, α1, h1, x1, rh1, rd, f1⟩ := q1
    obtain ⟨u, rfl, ru⟩ := r1.one
    refine wpAny_call (codeAny_mono (run_mk (am := .pos) XB Z hr hR I1 ru rd rh1 (fun z => nomatch z) f1) fun r s' hq => ?_)
    obtain ⟨u', rfl, q⟩ := hq
    exact q
theorem de_mk0 (XB : MiX.XBase B newId initId bmB) (Z : XcV X.K X.mg c f b m true C fI newId initId bmB) (hr : RoomG k X.A) (hR : R.mg = X.mg) (hg : Gl X c) (hcd : (c == ("__debug__" : Str)) = false := by decide) : DE X R W (.Call (.Name c p) [] [] pos) (eMk c f m (eC .non)) := by
  refine ⟨fun pins s σ H Q I h => ?_⟩
  obtain ⟨α, env, hp, re, rh, fi⟩ := h
  refine wpAny_Call_Name_kw (ld_glob I hg Z.T.gC ?_ hcd)
  refine PySem.W.callWith_K0 I.kIn Z.T.kC ?_
  refine wpAny_call (codeAny_mono (run_mk (am := .dfl) (v := .none) (vv := .non) (d := .non) XB Z hr hR I rfl .non rh (fun _ => ⟨rfl, rfl⟩) fi) fun r s' hq => ?_)
  obtain ⟨u', rfl, q⟩ := hq
  exact q
theorem de_mkK {e : Expr} {fe : Fe} {kp : Pos} (XB : MiX.XBase B newId initId bmB) (Z : XcV X.K X.mg c f b m od C fI newId initId bmB) (hr : RoomG k X.A) (hR : R.mg = X.mg) (he : DE X R W e fe) (hg : Gl X c) (hcd : (c == ("__debug__" : Str)) = false := by decide)
    (hall : (backToKw pos (keywordEach [⟨some f, e, kp⟩] X.env)).all (·.1.isSome) = true := by rfl) (hks : (backToKw pos (keywordEach [⟨some f, e, kp⟩] X.env)).filterMap (·.1) = [f] := by rfl)
    (hpl : ((backTo pos (starEach [] X.env)).any (·.1) || (backToKw pos (keywordEach [⟨some f, e, kp⟩] X.env)).any (·.1.isNone)) = false := by rfl) : DE X R W (.Call (.Name c p) [] [⟨some f, e, kp⟩] pos) (eMk c f m fe) := by
  refine ⟨fun pins s σ H Q I h => ?_⟩
  obtain ⟨α, env, hp, re, rh, fi⟩ := h
  have ha : PK X [⟨some f, e, kp⟩] (tCons (tE R W fe) tNil) := pk_cons he pk_nil
  refine wpAny_Call_Name_kw (ld_glob I hg Z.T.gC ?_ hcd)
  refine PySem.W.callWith_KW0 (h₀ := X.base) I.ok.mod.kin Z.T.kC hall (thn (ha.run pos pins s σ H (fun vs H1 => ∃ v, vs = [v] ∧ ∃ d α1 h1, Ext α H α1 H1 ∧ RH R α1 h1 H1 ∧ RelD R α1 H1 d v ∧ FinE R W α1 H1 σ (Res.ok (D.exv c f d m) h1) Q) I ?_) fun us s1 ⟨vs, H1, I1, r1, q1⟩ => ⟨I1.kIn, ?_⟩) hpl
  · exact ⟨α, env, hp, re, rh, (Fin.split (Rl := RelD R) (g := fun v h1 => (Res.ok (D.exv c f v m) h1 : Res D)) fi).imp fun v H1 hq => ⟨v, rfl, by
      obtain ⟨d, α1, h1, _, x1, rh1, rd, f1⟩ := hq
      exact ⟨d, α1, h1, x1, rh1, rd, f1⟩⟩⟩
  · obtain ⟨v, rfl, d, α1, h1, x1, rh1, rd, f1⟩ := q1
    obtain ⟨u, rfl, ru⟩ := r1.one
    rw [hks]
    refine wpAny_call (codeAny_mono (run_mk (am := .kw) XB Z hr hR I1 ru rd rh1 (fun z => nomatch z) f1) fun r s' hq => ?_)
    obtain ⟨u', rfl, q⟩ := hq
    exact q
/-! ### its field, its kind, its text -/
/-- the own classes c and their facts -/
def XVs (X : Cx) (cs : List Str) : Prop := ∀ c ∈ cs, ∃ f b m od C fI newId initId bmB, XcV X.K X.mg c f b m od C fI newId initId bmB
theorem exv_at {a : Value} {v : V} {d : D} {c' f' : Str} {m' : Str} (I : Inv X pins σ H s) (ru : RelV v a) (hR : R.mg = X.mg) (rd : RelD R α H (.exv c' f' d m') v) {cs : List Str} (hc : c' ∈ cs) (hX : XVs X cs) :
    ∃ (x C dd : Addr) (v' : V) (f b m : Str) (od : Bool) (fI : Addr) (newId initId : String) (bmB : List Value) (oe : Obj) (vs : Array Value) (t : Addr), a = .ref x ∧ v = .ref x ∧ XcV X.K X.mg c' f b m od C fI newId initId bmB ∧ RelD R α H d v' ∧ H dd = some (.xd [(f', v')]) ∧
      s.heap.get? x = some oe ∧ oe.cls = .ref C ∧ oe.dict = some dd ∧ oe.data = .fields vs ∧ vs[0]? = some (.ref t) ∧ H t = some (.tup [.str m']) ∧ X.mg c' = some (.ref C) := by
  unfold RelD at rd
  obtain ⟨x, dd, t, C, v', rfl, g1, g2, g5, g3, g4⟩ := rd
  obtain rfl : a = Value.ref x := ru
  obtain ⟨f, b, m, od, C2, fI, newId, initId, bmB, Z⟩ := hX c' hc
  rw [hR, Z.T.gC] at g1
  cases g1
  obtain ⟨⟨oe, vs, e, e1, e2, e3, e4, e5⟩, _, _⟩ := I.hok x _ g2
  exact ⟨x, _, dd, v', f, b, m, od, fI, newId, initId, bmB, oe, vs, t, rfl, rfl, Z, g4, g3, e, e1, e2, e3, e4, g5, Z.T.gC⟩
@[simp] def eFldV (f : Str) (cs : List Str) (fe : Fe) : Fe := fun env h => (fe env h).bind fun d h1 => match d with
  | .exv c g v _ => if (g == f && cs.contains c) = true then .ok v h1 else .no
  | _ => .no
theorem de_fldV {e : Expr} {fe : Fe} {cs : List Str} {f : Str} (hR : R.mg = X.mg) (hX : XVs X cs) (hf : ∀ c ∈ cs, ∀ C, X.mg c = some (.ref C) → PySem.W.findIn X.K (.ref C) f = some none) (he : DE X R W e fe) (hb : attributeBase e f X.env (eval e X.env) = eval e X.env := by rfl) :
    DE X R W (.Attribute e f pos) (eFldV f cs fe) := by
  refine ⟨fun pins s σ H Q I h => ?_⟩
  obtain ⟨α, env, hp, re, rh, fi⟩ := h
  refine attr_of hb (thn (he.run pins s σ H _ I ⟨α, env, hp, re, rh, Fin.split fi⟩) fun u s1 hh => ?_)
  obtain ⟨v, H1, I1, ru, d, α1, h1, _, x1, rh1, rd, f1⟩ := hh
  cases d with
  | exv c g dv m' =>
    dsimp only at f1
    split at f1
    · rename_i hk
      rw [Bool.and_eq_true, beq_iff_eq] at hk
      obtain ⟨rfl, hcs⟩ := hk
      have hcs : c ∈ cs := by simpa using hcs
      obtain ⟨x, C, dd, v', f0, b0, m0, od0, fI0, n0, i0, bm0, oe, vs, t, rfl, rfl, Z, rd', hx, e, e1, e2, e3, e4, e6, gc⟩ := exv_at I1 ru hR rd hcs hX
      have ox : ObjOk X.prog X.w H1 s1.heap dd (.xd [(g, v')]) := I1.hok dd _ hx
      obtain ⟨mA, hns, hr⟩ := ox
      obtain ⟨od, ho, hl⟩ := lookIn_ns hns
      have l : List.lookup g [(g, v')] = some v' := by simp [List.lookup]
      obtain ⟨u, hu, ru⟩ := L2.RelO.some_of (v := v') (o := mA g) (by rw [← l]; exact hr g)
      have J : PySem.W.InstAt s1.heap x oe C (some od) := ⟨e, e1, by unfold PySem.W.notCls; rw [e3] <;> rfl, by rw [e2]; exact ho⟩
      exact HandSPX.exc_get I1.kIn J Z.T.ga Z.T.gg Z.T.exC (PySem.W.findObj_own Z.T.hd (hf c hcs C Z.T.gC) rfl (by rw [hl, hu])) (handed_of ru) ⟨v', H1, I1.tok _, ru, f1 α1 H1 v' .refl rh1 rd'⟩
    · exact f1.elim
  | _ => exact (show False from f1).elim
/-- isinstance(e, C) -/
def gIsX (cs : List Str) (isOf : Str → D → Option Bool) : List D → Hd → Res D := fun ds h => match ds with
  | [.exv c _ _ _, y] => if cs.contains c = true then (match isOf c y with
    | some b => .ok (.bl b) h
    | none => .no) else .no
  | _ => .no
/-- the D-value of a class as the model has it -/
def clsV (mg : Str → Option Value) : D → Option Value
  | .gl x => mg x
  | .ty T => some (.type T)
  | _ => none
theorem cd_isx {cs : List Str} {isOf : Str → D → Option Bool} (hR : R.mg = X.mg) (hX : XVs X cs) (hn : PySem.W.specialIn X.K (.builtin "object.__class__") "__get__" = some (some (.builtin "getset_descriptor.__get__"))) (ht : PySem.W.takesIn X.K (.builtin "object.__class__") = some true)
    (hy : ∀ c y b, isOf c y = some b → (∃ x, y = .gl x) ∨ ∃ T, y = .ty T) (hi : ∀ c y b, c ∈ cs → isOf c y = some b → ∀ C u, X.mg c = some (.ref C) → clsV X.mg y = some u → PySem.W.kitOne X.K (.ref C) u = some b) : CallD X R (.builtin "isinstance") (gIsX cs isOf) := by
  intro ds α h H vs W σ Q rh rd f
  refine ⟨fun xs H Q => xs = vs ∧ RelDs R α H ds xs ∧ RH R α h H ∧ FinE R W α H σ (gIsX cs isOf ds h) Q, fun pins s σ' H' xs us Q' I ru hq => ?_, rfl, rd, rh, f⟩
  obtain ⟨rfl, rd, rh, f⟩ := hq
  have shape : ∃ c g dv m' y b, ds = [.exv c g dv m', y] ∧ c ∈ cs ∧ isOf c y = some b ∧ FinE R W α H' σ (.ok (.bl b) h) Q' := by
    unfold gIsX at f
    split at f
    · split at f
      · rename_i hcs
        split at f
        · rename_i b eb
          exact ⟨_, _, _, _, _, b, rfl, by simpa using hcs, eb, f⟩
        · exact (show False from f).elim
      · exact (show False from f).elim
    · exact (show False from f).elim
  obtain ⟨c, g, dv, m', y, b, rfl, hcs, eb, f⟩ := shape
  obtain ⟨v1, v2, rfl, r1, r2⟩ := rd.two
  cases ru with
  | cons ru1 rr =>
  cases rr with
  | cons ru2 rn =>
  cases rn
  obtain ⟨x, C, dd, v', f0, b0, m0, od0, fI0, n0, i0, bm0, oe, vs, t, rfl, rfl, Z, rd', hx, e, e1, e2, e3, e4, e6, gc⟩ := exv_at I ru1 hR r1 hcs hX
  have cl : (PySem.W.clsIn X.K C).isSome = true := by
    have z := Z.T.hd
    unfold PySem.W.hasDictIn at z
    cases q : PySem.W.clsIn X.K C with
    | none => rw [q] at z; cases z
    | some _ => rfl
  obtain ⟨mA, hns, hr⟩ : ObjOk X.prog X.w H' s.heap dd (.xd [(g, v')]) := I.hok dd _ hx
  obtain ⟨od, ho, hl⟩ := lookIn_ns hns
  have J : PySem.W.InstAt s.heap x oe C (some od) := ⟨e, e1, by unfold PySem.W.notCls; rw [e3] <;> rfl, by rw [e2]; exact ho⟩
  have fin : ∀ u, clsV X.mg y = some u → wpAny (model X.prog X.w) X.A (call (.builtin "isinstance") [.ref x, u]) (EP X pins σ' Q') X.xe s := fun u hu =>
    PySem.W.kia_one (PySem.W.kitx_exc cl Z.T.ga Z.T.gg Z.T.exC Z.ga hn ht Z.mo) I.kIn J (hi c y b hcs eb C u Z.T.gC hu) (by intro z; cases z) fun tk => ⟨.bl b, H', I.tok _, rfl, f α H' _ .refl rh .bl⟩
  rcases hy c y b eb with ⟨z, rfl⟩ | ⟨T, rfl⟩
  · obtain ⟨a2, h1, rfl⟩ := r2.gl_inv
    rw [hR] at h1
    have e2 : _ = Value.ref a2 := ru2
    rw [e2]
    exact fin _ h1
  · rw [r2.ty_inv] at ru2
    have e2 : _ = Value.type T := ru2
    rw [e2]
    exact fin _ rfl
/-- str(e), str(text), str(int) -/
def gStr (cs : List Str) : List D → Hd → Res D := fun ds h => match ds with
  | [x] => (match x with
    | .str z => .ok (.str z) h
    | .int i => if i.natAbs.log2 < 1920 then .ok (.str (toString i)) h else .no
    | .exv c _ _ m => if cs.contains c = true then .ok (.str m) h else .no
    | _ => .no)
  | _ => .no
theorem cd_str {cs : List Str} (hR : R.mg = X.mg) (hu : X.A.units + 64 < cLine) (hX : XVs X cs) : CallD X R (.type "str") (gStr cs) := by
  intro ds α h H vs W σ Q rh rd f
  refine ⟨fun xs H Q => xs = vs ∧ RelDs R α H ds xs ∧ RH R α h H ∧ FinE R W α H σ (gStr cs ds h) Q, fun pins s σ' H' xs us Q' I ru hq => ?_, rfl, rd, rh, f⟩
  obtain ⟨rfl, rd, rh, f⟩ := hq
  have one : ∃ x, ds = [x] := by
    unfold gStr at f
    split at f
    · exact ⟨_, rfl⟩
    · exact (show False from f).elim
  obtain ⟨x, rfl⟩ := one
  obtain ⟨v, rfl, r1⟩ := rd.one
  obtain ⟨u, rfl, ru1⟩ := ru.one
  unfold gStr at f
  dsimp only at f
  cases x with
  | str z =>
    rw [r1.str_inv] at ru1
    obtain ⟨t, rfl⟩ := ru1
    exact P.str_of_str (show EP X pins σ' Q' (.str z t) s from ⟨.str z, H', I, ⟨t, rfl⟩, f α H' _ .refl rh .str⟩)
  | int i =>
    dsimp only at f
    split at f
    · rename_i hl
      rw [r1.int_inv] at ru1
      obtain ⟨t, rfl⟩ := ru1
      exact P.str_of_int hl (show EP X pins σ' Q' _ _ from ⟨.str (toString i), H', I.tok _, ⟨_, rfl⟩, f α H' _ .refl rh .str⟩)
    · exact (show False from f).elim
  | exv c g dv m' =>
    dsimp only at f
    split at f
    · rename_i hcs
      have hcs : c ∈ cs := by simpa using hcs
      obtain ⟨x, C, dd, v', f0, b0, m0, od0, fI0, n0, i0, bm0, oe, vs, t, rfl, rfl, Z, rd', hx, e, e1, e2, e3, e4, e6, gc⟩ := exv_at I ru1 hR r1 hcs hX
      obtain ⟨_, its, rv, ot, h1, h2, n, h3⟩ : ObjOk X.prog X.w H' s.heap t (.tup [.str m']) := I.hok t _ e6
      obtain ⟨w, ew, tk, rw_⟩ := rv.one
      subst ew
      have rw_ : w = .str m' tk := rw_
      subst rw_
      exact P.str_of_C_one (by omega) ⟨I.kIn, oe, vs, e, e1, e3, e4⟩ ⟨ot, n, h1, h2, h3⟩ Z.st Z.T.exC (show EP X pins σ' Q' (.str m' tk) s from ⟨.str m', H', I, ⟨tk, rfl⟩, f α H' _ .refl rh .str⟩)
    · exact (show False from f).elim
  | _ => exact (show False from f).elim
/-- a text in a text -/
def gInS : D → D → Hd → Res D := fun x y h => match x, y with
  | .str i, .str j => .ok (.bl (!(Builtin.Str.occurrences j i 0 j.length 1).isEmpty)) h
  | _, _ => .no
theorem od_inS : OpD X R (compareOp .In) gInS := by
  intro x y α h H vx vy W σ Q rh rx ry f
  unfold gInS at f
  split at f
  · rw [rx.str_inv, ry.str_inv]
    exact ⟨_, op_in_str, _, _, rfl, rfl, f α H _ .refl rh .bl⟩
  · exact (show False from f).elim
end
end Mi

set_option Elab.async false
set_option linter.all false
set_option maxRecDepth 100000
set_option maxHeartbeats 4000000
namespace Mi
open PySem PySem.Spec PyProof.Rows L2
open PySem.W (Frag)
/-! ### great powers, a text many times -/
def gPowB : D → D → Hd → Res D := fun x y h => match x, y with
  | .int i, .int j => if (decide (0 ≤ j) && decide ((Builtin.Int.intBits i : Int) * j ≤ 2 ^ 27)) = true then .ok (.int (i ^ j.toNat)) h else .no
  | _, _ => .no
instance decMulOk {x : Str} {n : Int} : Decidable (MulOk x n) := by unfold MulOk; infer_instance
def gMulS : D → D → Hd → Res D := fun x y h => match x, y with
  | .str x, .int k => if decide (MulOk x k) = true then .ok (.str (Txt.mul x k)) h else .no
  | _, _ => .no
section
variable {X : Cx} {R : Rx}
theorem od_powB : OpD X R (binaryOp .Pow) gPowB := by
  intro x y α h H vx vy W σ Q rh rx ry f
  refine ⟨fun x' y' H' Q' => ∃ i j : Int, x' = .int i ∧ y' = .int j ∧ 0 ≤ j ∧ (Builtin.Int.intBits i : Int) * j ≤ 2 ^ 27 ∧ Q' (.int (i ^ j.toNat)) H', fun pins s σ' H' x' y' v u Q' I r1 r2 hq => ?_, ?_⟩
  · obtain ⟨i, j, rfl, rfl, h1, h2, q⟩ := hq
    obtain ⟨t, rfl⟩ := r1
    obtain ⟨t2, rfl⟩ := r2
    exact pow_int h1 h2 (show EP X pins σ' Q' _ _ from ⟨.int (i ^ j.toNat), H', I.tok _, ⟨_, rfl⟩, q⟩)
  · unfold gPowB at f
    split at f
    · split at f
      · rename_i i j hm
        rw [Bool.and_eq_true, decide_eq_true_eq, decide_eq_true_eq] at hm
        exact ⟨i, j, rx.int_inv, ry.int_inv, hm.1, hm.2, f α H _ .refl rh .int⟩
      · exact f.elim
    · exact f.elim
theorem od_mulS : OpD X R (binaryOp .Mult) gMulS := by
  intro x y α h H vx vy W σ Q rh rx ry f
  refine ⟨fun x' y' H' Q' => ∃ (z : Str) (j : Int), x' = .str z ∧ y' = .int j ∧ MulOk z j ∧ Q' (.str (Txt.mul z j)) H', fun pins s σ' H' x' y' v u Q' I r1 r2 hq => ?_, ?_⟩
  · obtain ⟨i, j, rfl, rfl, h1, q⟩ := hq
    obtain ⟨t, rfl⟩ := r1
    obtain ⟨t2, rfl⟩ := r2
    exact SB.mul h1 fun t' k => (show EP X pins σ' Q' _ _ from ⟨.str (Txt.mul i j), H', I.tok _, ⟨_, rfl⟩, q⟩)
  · unfold gMulS at f
    split at f
    · split at f
      · rename_i z j hm
        exact ⟨z, j, rx.str_inv, ry.int_inv, of_decide_eq_true hm, f α H _ .refl rh .str⟩
      · exact f.elim
    · exact f.elim
end
/-! ### the facts of such classes -/
def xvB (c : Str) (K : Frag) : Bool := He.eqO (PySem.W.findIn K (.ref (He.ga K c)) "__class__") (some (some (.builtin "object.__class__"))) && (He.eqO (PySem.W.findIn K (.ref (He.ga K c)) "__str__") (some (some (.builtin "BaseException.__str__"))) && decide (PySem.W.mroIn K (He.ga K c) (.type "object") = some true))
section
variable {K : Frag} {mg : Str → Option Value} {c f b m : Str} {newId initId : String} {bm : List Value} {qual : Str} {dfl : List Expr} {j : Nat} {p1 p2 q1 q2 q3 q4 q5 q6 r1 r2 r3 r4 : Pos}
theorem xv_ok (T : MiX.XcTxt K mg c f b (He.ga K c) (He.ma K (He.ga K c) "__init__") newId initId bm) (q : xvB c K = true)
    (FD : ∃ fd, FunD K "__init__" qual (MiX.iA f dfl p1 p2) (MiX.iB f b m j q1 q2 q3 q4 q5 q6 r1 r2 r3 r4) (MiX.iS f b) [V.non] [] (He.ma K (He.ga K c) "__init__") fd)
    (hcall : ∀ env : PySem.Env, ∃ pl, eval (.Call (.Attribute (.Name b q1) "__init__" q2) [.Name "self" q3, .Constant (.str m) j q4] [] q5) env = (do
      let ov ← eval (.Name b q1) env
      standAt q2.atName
      let (f, first) ← holding [ov] (getMethod ov "__init__" pl)
      callWith q5 f first (backTo q5 (starEach [.Name "self" q3, .Constant (.str m) j q4] env)) (backToKw q5 (keywordEach [] env))))
    (h1 : ∀ (T : Addr) (kV doc pm : Value) (an : Option Addr) (cdv ct x v : Value) (its : List Value), its.length = 1 →
      ∃ k, bindArgs (PySem.W.fnOf "__init__" qual (MiX.iA f dfl p1 p2) (MiX.iB f b m j q1 q2 q3 q4 q5 q6 r1 r2 r3 r4) (MiX.iS f b) (.ref T) kV doc pm an cdv ct) ⟨[x, v], []⟩ = seqItems? (.ref T) >>= k ∧ k (some its.toArray) = pure ((["self", f] : List Str).zip [x, v]))
    (h2 : ∀ (T : Addr) (kV doc pm : Value) (an : Option Addr) (cdv ct x v : Value) (its : List Value), its.length = 1 →
      ∃ k, bindArgs (PySem.W.fnOf "__init__" qual (MiX.iA f dfl p1 p2) (MiX.iB f b m j q1 q2 q3 q4 q5 q6 r1 r2 r3 r4) (MiX.iS f b) (.ref T) kV doc pm an cdv ct) ⟨[x], [(f, v)]⟩ = seqItems? (.ref T) >>= k ∧ k (some its.toArray) = pure ((["self", f] : List Str).zip [x, v]))
    (h3 : ∀ (T : Addr) (kV doc pm : Value) (an : Option Addr) (cdv ct x i : Value),
      ∃ k, bindArgs (PySem.W.fnOf "__init__" qual (MiX.iA f dfl p1 p2) (MiX.iB f b m j q1 q2 q3 q4 q5 q6 r1 r2 r3 r4) (MiX.iS f b) (.ref T) kV doc pm an cdv ct) ⟨[x], []⟩ = seqItems? (.ref T) >>= k ∧ k (some #[i]) = pure ((["self", f] : List Str).zip [x, i])) :
    MiX.XcV K mg c f b m true (He.ga K c) (He.ma K (He.ga K c) "__init__") newId initId bm := by
  obtain ⟨a1, q⟩ := He.ba q
  obtain ⟨a2, a3⟩ := He.ba q
  obtain ⟨fd, FD⟩ := FD
  refine ⟨T, He.eqO_ok a1, He.eqO_ok a2, of_decide_eq_true a3, qual, dfl, j, p1, p2, q1, q2, q3, q4, q5, q6, r1, r2, r3, r4, _, fd, FD, hcall, fun am x v s how X => ?_⟩
  obtain ⟨oc, od, dV, kV, doc, pm, an, cdv, ct, osl, rfl, lk, hcd, hD, hK⟩ := FD.ex
  rcases hD with ⟨e, _⟩ | ⟨_, T, o, its, m, rfl, lT, oT, rT⟩
  · cases e
  · obtain ⟨i, ei, ri⟩ := rT.one
    obtain rfl : i = Value.none := ri
    have l1 : its = [.none] := by simpa using ei
    cases am with
    | pos =>
      obtain ⟨k, e1, e2⟩ := h1 T kV doc pm an cdv ct x v its (by rw [l1]; rfl)
      exact BindsTo.of_looks fun M => by
        show PySem.W.Looks _ _ (bindArgs _ ⟨[x, v], []⟩) _
        rw [e1]
        exact looks_items X lT oT (.of_pure e2)
    | kw =>
      obtain ⟨k, e1, e2⟩ := h2 T kV doc pm an cdv ct x v its (by rw [l1]; rfl)
      exact BindsTo.of_looks fun M => by
        show PySem.W.Looks _ _ (bindArgs _ ⟨[x], [(f, v)]⟩) _
        rw [e1]
        exact looks_items X lT oT (.of_pure e2)
    | dfl =>
      obtain ⟨_, rfl⟩ := how rfl
      obtain ⟨k, e1, e2⟩ := h3 T kV doc pm an cdv ct x .none
      exact BindsTo.of_looks fun M => by
        show PySem.W.Looks _ _ (bindArgs _ ⟨[x], []⟩) _
        rw [e1]
        exact looks_items X lT oT (.of_pure (by rw [l1]; exact e2))
theorem xv_ok0 (T : MiX.XcTxt K mg c f b (He.ga K c) (He.ma K (He.ga K c) "__init__") newId initId bm) (q : xvB c K = true)
    (FD : ∃ fd, FunD K "__init__" qual (MiX.iA f [] p1 p2) (MiX.iB f b m j q1 q2 q3 q4 q5 q6 r1 r2 r3 r4) (MiX.iS f b) [] [] (He.ma K (He.ga K c) "__init__") fd)
    (hcall : ∀ env : PySem.Env, ∃ pl, eval (.Call (.Attribute (.Name b q1) "__init__" q2) [.Name "self" q3, .Constant (.str m) j q4] [] q5) env = (do
      let ov ← eval (.Name b q1) env
      standAt q2.atName
      let (f, first) ← holding [ov] (getMethod ov "__init__" pl)
      callWith q5 f first (backTo q5 (starEach [.Name "self" q3, .Constant (.str m) j q4] env)) (backToKw q5 (keywordEach [] env))))
    (h1 : ∀ (kV doc pm : Value) (an : Option Addr) (cdv ct x v : Value), bindArgs (PySem.W.fnOf "__init__" qual (MiX.iA f [] p1 p2) (MiX.iB f b m j q1 q2 q3 q4 q5 q6 r1 r2 r3 r4) (MiX.iS f b) .none kV doc pm an cdv ct) ⟨[x, v], []⟩ = pure ((["self", f] : List Str).zip [x, v]))
    (h2 : ∀ (kV doc pm : Value) (an : Option Addr) (cdv ct x v : Value), bindArgs (PySem.W.fnOf "__init__" qual (MiX.iA f [] p1 p2) (MiX.iB f b m j q1 q2 q3 q4 q5 q6 r1 r2 r3 r4) (MiX.iS f b) .none kV doc pm an cdv ct) ⟨[x], [(f, v)]⟩ = pure ((["self", f] : List Str).zip [x, v])) :
    MiX.XcV K mg c f b m false (He.ga K c) (He.ma K (He.ga K c) "__init__") newId initId bm := by
  obtain ⟨a1, q⟩ := He.ba q
  obtain ⟨a2, a3⟩ := He.ba q
  obtain ⟨fd, FD⟩ := FD
  refine ⟨T, He.eqO_ok a1, He.eqO_ok a2, of_decide_eq_true a3, qual, [], j, p1, p2, q1, q2, q3, q4, q5, q6, r1, r2, r3, r4, _, fd, FD, hcall, fun am x v s how X => ?_⟩
  obtain ⟨oc, od, dV, kV, doc, pm, an, cdv, ct, osl, rfl, lk, hcd, hD, hK⟩ := FD.ex
  rcases hD with ⟨_, rfl⟩ | ⟨e, _⟩
  · cases am with
    | pos => exact .of_eq (h1 kV doc pm an cdv ct x v)
    | kw => exact .of_eq (h2 kV doc pm an cdv ct x v)
    | dfl => exact absurd (how rfl).1 (by decide)
  · exact absurd rfl e
end
/-! ### which class is which: by a table -/
def isOf (bs : List (Str × List Str × List String)) (ts : List Str) (tys : List String) : Str → D → Option Bool := fun c y => match bs.lookup c with
  | some (own, blt) => (match y with
    | .gl t => if ts.contains t = true then some (own.contains t) else none
    | .ty T => if tys.contains T = true then some (blt.contains T) else none
    | _ => none)
  | none => none
theorem isOf_y {bs : List (Str × List Str × List String)} {ts : List Str} {tys : List String} : ∀ c y b, isOf bs ts tys c y = some b → (∃ x, y = .gl x) ∨ ∃ T, y = .ty T := fun c y b e => by
  unfold isOf at e
  split at e
  · split at e
    · exact .inl ⟨_, rfl⟩
    · exact .inr ⟨_, rfl⟩
    · cases e
  · cases e
def isB (bs : List (Str × List Str × List String)) (ts : List Str) (tys : List String) (K : Frag) : Bool :=
  (bs.all fun p => He.Fa.ok K (.glo p.1)) && ((ts.all fun t => He.Fa.ok K (.glo t)) && bs.all fun p => (ts.all fun t => decide (PySem.W.kitOne K (.ref (He.ga K p.1)) (.ref (He.ga K t)) = some (p.2.1.contains t))) && tys.all fun T => decide (PySem.W.kitOne K (.ref (He.ga K p.1)) (.type T) = some (p.2.2.contains T)))
theorem lookup_in {β : Type} : ∀ {l : List (Str × β)} {c : Str} {v : β}, l.lookup c = some v → (c, v) ∈ l
  | [], _, _, h => by cases h
  | (a, b) :: l, c, v, h => by
    rw [List.lookup_cons] at h
    by_cases e : (c == a) = true
    · rw [e] at h
      cases h
      rw [eq_of_beq e]
      exact List.mem_cons_self ..
    · rw [Bool.not_eq_true] at e
      rw [e] at h
      exact List.mem_cons_of_mem _ (lookup_in h)
theorem is_ok {K : Frag} {h : Heap} {mg : Str → Option Value} (X : K.In h) (G : h.Ns mainGlobals mg) {bs : List (Str × List Str × List String)} {ts : List Str} {tys : List String} (q : isB bs ts tys K = true) :
    ∀ c y b, isOf bs ts tys c y = some b → ∀ C u, mg c = some (.ref C) → clsV mg y = some u → PySem.W.kitOne K (.ref C) u = some b := fun c y b e C u hC hu => by
  obtain ⟨a1, q⟩ := He.ba q
  obtain ⟨a2, a3⟩ := He.ba q
  unfold isOf at e
  split at e
  · rename_i own blt l
    have mem := lookup_in l
    obtain ⟨k1, k2⟩ := He.ba (List.all_eq_true.mp a3 _ mem)
    have gc := He.glo_ok X G (List.all_eq_true.mp a1 _ mem)
    have gc : mg c = some (.ref (He.ga K c)) := gc
    rw [gc] at hC
    cases hC
    split at e
    · rename_i t
      split at e
      · rename_i ht
        have ht : t ∈ ts := by simpa using ht
        have gt := He.glo_ok X G (List.all_eq_true.mp a2 _ ht)
        have hu : mg t = some u := hu
        rw [gt] at hu
        cases hu
        cases e
        exact of_decide_eq_true (List.all_eq_true.mp k1 _ ht)
      · cases e
    · rename_i T
      split at e
      · rename_i ht
        have ht : T ∈ tys := by simpa using ht
        have hu : some (Value.type T) = some u := hu
        cases hu
        cases e
        exact of_decide_eq_true (List.all_eq_true.mp k2 _ ht)
      · cases e
    · cases e
  · cases e
def noB (f : Str) (cs : List Str) (K : Frag) : Bool := cs.all fun c => He.Fa.ok K (.glo c) && He.eqO (PySem.W.findIn K (.ref (He.ga K c)) f) (some none)
theorem no_ok {K : Frag} {h : Heap} {mg : Str → Option Value} (X : K.In h) (G : h.Ns mainGlobals mg) {f : Str} {cs : List Str} (q : noB f cs K = true) : ∀ c ∈ cs, ∀ C, mg c = some (.ref C) → PySem.W.findIn K (.ref C) f = some none := fun c hc C hC => by
  obtain ⟨a1, a2⟩ := He.ba (List.all_eq_true.mp q _ hc)
  rw [He.glo_ok X G a1] at hC
  cases hC
  exact He.eqO_ok a2
def gsB (K : Frag) : Bool := He.eqO (PySem.W.specialIn K (.builtin "object.__class__") "__get__") (some (some (.builtin "getset_descriptor.__get__"))) && decide (PySem.W.takesIn K (.builtin "object.__class__") = some true)
theorem gs_ok {K : Frag} (q : gsB K = true) : PySem.W.specialIn K (.builtin "object.__class__") "__get__" = some (some (.builtin "getset_descriptor.__get__")) ∧ PySem.W.takesIn K (.builtin "object.__class__") = some true := by
  obtain ⟨a1, a2⟩ := He.ba q
  exact ⟨He.eqO_ok a1, of_decide_eq_true a2⟩
end Mi

set_option Elab.async false
set_option linter.all false
set_option maxRecDepth 100000
set_option maxHeartbeats 1000000
namespace Mi
open PySem PySem.Spec PyProof.Rows L2
/-! ### loops over a list that is left alone -/
theorem getD_mem {xs : List D} {i : Nat} (hi : i < xs.length) : xs.getD i .non ∈ xs := by
  rw [List.getD_eq_getElem?_getD, List.getElem?_eq_getElem hi, Option.getD_some]
  exact List.getElem_mem hi
theorem take_one {xs : List D} {i : Nat} (hi : i < xs.length) : xs.take (i + 1) = xs.take i ++ [xs.getD i .non] := by
  have e : xs.getD i .non = xs[i] := by rw [List.getD_eq_getElem?_getD, List.getElem?_eq_getElem hi, Option.getD_some]
  rw [e, List.take_append_getElem hi]
/-- a comprehension whose source is src, its items xs -/
theorem lc_src {src : Src} {tg : Fg} {tst : Ft} {el : Fe} {env : En} {h : Hd} {xs : List D} (g : D → List D) (item : ∀ i h1, i < xs.length → Kp [] h h1 → src h1 i = .item (xs.getD i .non)) (stop : ∀ h1, Kp [] h h1 → src h1 xs.length = .stop)
    (turn : ∀ d ∈ xs, ∀ h1, Kp [] h h1 → ∃ h2, turnC tg tst el env d h1 = .ok (g d) h2 ∧ Kp [] h1 h2) (hl : xs.length ≤ 16777216) :
    ∃ h', lcL src tg tst el env h.length most 0 (h ++ [.lst []]) = .ok (.ref h.length) h' ∧ Kp [] h h' ∧ h'[h.length]? = some (.lst (xs.flatMap g)) := by
  have key := lc_inv (src := src) (tg := tg) (tst := tst) (el := el) (env := env) (h := h) xs.length (fun i => xs.getD i .non) (fun i h1 acc => Kp [] h h1 ∧ acc = (xs.take i).flatMap g) ⟨Kp.app, rfl⟩ ?_ ?_ hl
  · obtain ⟨h', acc, e, e1, _, kp, e2⟩ := key
    rw [List.take_length] at e2
    subst e2
    exact ⟨h', e, kp, e1⟩
  · rintro i h1 acc hi ⟨kp, rfl⟩ q
    obtain ⟨h2, t, k2⟩ := turn _ (getD_mem hi) h1 kp
    refine ⟨item i h1 hi kp, g (xs.getD i .non), h2, t, k2.at_ _ _ (by simp) q, (kp.trans k2).setNew (Nat.le_refl _), ?_⟩
    rw [take_one hi, List.flatMap_append, List.flatMap_cons, List.flatMap_nil, List.append_nil]
  · rintro h1 acc ⟨kp, _⟩ _
    exact stop h1 kp
theorem lc_ref {tg : Fg} {tst : Ft} {el : Fe} {env : En} {h : Hd} {a : Nat} {xs : List D} (g : D → List D) (ha : h[a]? = some (.lst xs))
    (turn : ∀ d ∈ xs, ∀ h1, Kp [] h h1 → ∃ h2, turnC tg tst el env d h1 = .ok (g d) h2 ∧ Kp [] h1 h2) (hl : xs.length ≤ 16777216) :
    ∃ h', lcL (liveS a) tg tst el env h.length most 0 (h ++ [.lst []]) = .ok (.ref h.length) h' ∧ Kp [] h h' ∧ h'[h.length]? = some (.lst (xs.flatMap g)) :=
  lc_src g (fun i h1 hi kp => live_item (.inl (kp.at_ _ _ (by simp) ha)) hi) (fun h1 kp => live_stop (.inl (kp.at_ _ _ (by simp) ha))) turn hl
theorem lc_tup {tg : Fg} {tst : Ft} {el : Fe} {env : En} {h : Hd} {xs : List D} (g : D → List D)
    (turn : ∀ d ∈ xs, ∀ h1, Kp [] h h1 → ∃ h2, turnC tg tst el env d h1 = .ok (g d) h2 ∧ Kp [] h1 h2) (hl : xs.length ≤ 16777216) :
    ∃ h', lcL (fixS xs) tg tst el env h.length most 0 (h ++ [.lst []]) = .ok (.ref h.length) h' ∧ Kp [] h h' ∧ h'[h.length]? = some (.lst (xs.flatMap g)) :=
  lc_src g (fun i h1 hi kp => fix_item hi) (fun h1 kp => fix_stop) turn hl
/-- a for loop over items xs that keeps J -/
theorem for_src {src : Src} {tg : Fg} {body : Fs} {env : En} {h : Hd} {xs : List D} (J : En → Hd → Prop) (j0 : J env h) (item : ∀ i env1 h1, i < xs.length → J env1 h1 → src h1 i = .item (xs.getD i .non)) (stop : ∀ env1 h1, J env1 h1 → src h1 xs.length = .stop)
    (turn : ∀ d ∈ xs, ∀ env1 h1, J env1 h1 → ∃ env2 h2, stepS tg body d env1 h1 = .nx env2 h2 ∧ J env2 h2) (hl : xs.length ≤ 16777216) :
    ∃ env' h', forL src tg body most 0 env h = .nx env' h' ∧ J env' h' :=
  for_inv (src := src) (tg := tg) (body := body) xs.length (fun i => xs.getD i .non) (fun _ => J) j0 (fun i env1 h1 hi j => ⟨item i env1 h1 hi j, turn _ (getD_mem hi) env1 h1 j⟩) (fun env1 h1 j => stop env1 h1 j) (by rw [most_eq]; omega)
theorem for_ref {tg : Fg} {body : Fs} {env : En} {h : Hd} {a : Nat} {xs : List D} (J : En → Hd → Prop) (j0 : J env h) (ha : h[a]? = some (.lst xs)) (kp : ∀ env1 h1, J env1 h1 → h1[a]? = some (.lst xs))
    (turn : ∀ d ∈ xs, ∀ env1 h1, J env1 h1 → ∃ env2 h2, stepS tg body d env1 h1 = .nx env2 h2 ∧ J env2 h2) (hl : xs.length ≤ 16777216) :
    ∃ env' h', forL (liveS a) tg body most 0 env h = .nx env' h' ∧ J env' h' :=
  for_src J j0 (fun i env1 h1 hi j => live_item (.inl (kp env1 h1 j)) hi) (fun env1 h1 j => live_stop (.inl (kp env1 h1 j))) turn hl
theorem for_tup {tg : Fg} {body : Fs} {env : En} {h : Hd} {xs : List D} (J : En → Hd → Prop) (j0 : J env h)
    (turn : ∀ d ∈ xs, ∀ env1 h1, J env1 h1 → ∃ env2 h2, stepS tg body d env1 h1 = .nx env2 h2 ∧ J env2 h2) (hl : xs.length ≤ 16777216) :
    ∃ env' h', forL (fixS xs) tg body most 0 env h = .nx env' h' ∧ J env' h' :=
  for_src J j0 (fun i env1 h1 hi j => fix_item hi) (fun env1 h1 j => fix_stop) turn hl
/-! ### small steps -/
theorem if_no {c : Ft} {f g : Fs} {env : En} {h h' : Hd} (e : c env h = .ok false h') : sIf c f g env h = g env h' := (if_ok e).trans (by rw [if_neg (by decide)])
theorem if_yes {c : Ft} {f g : Fs} {env : En} {h h' : Hd} (e : c env h = .ok true h') : sIf c f g env h = f env h' := (if_ok e).trans (by rw [if_pos rfl])
theorem or_no {a b : Ft} {env : En} {h h1 h2 : Hd} {r : Bool} (e : a env h = .ok false h1) (e2 : b env h1 = .ok r h2) : tOrD a b env h = .ok r h2 := by
  show (a env h).bind _ = _
  rw [e]
  exact e2
theorem lst_ok {fa : Fa} {env : En} {h h1 : Hd} {xs : List D} (e : fa env h = .ok xs h1) (hl : xs.length ≤ 1000) : eLst fa env h = .ok (.ref h1.length) (h1 ++ [.lst xs]) := by
  show (fa env h).bind _ = _
  rw [e]
  show (if xs.length ≤ 16777216 then _ else _) = _
  rw [if_pos (by omega)]
theorem tup_ok {fa : Fa} {env : En} {h h1 : Hd} {xs : List D} (e : fa env h = .ok xs h1) (hl : xs.length ≤ 1000) : eTup fa env h = .ok (.tup xs) h1 := by
  show (fa env h).bind _ = _
  rw [e]
  show (if xs.length ≤ 16777216 then _ else _) = _
  rw [if_pos (by omega)]
theorem cat_lst {a b : Nat} {xs ys : List D} {h : Hd} (e : h[a]? = some (.lst xs)) (e2 : h[b]? = some (.lst ys)) (hl : xs.length + ys.length ≤ 1000) : gAdd (.ref a) (.ref b) h = .ok (.ref h.length) (h ++ [.lst (xs ++ ys)]) := by
  show (match h[a]?, h[b]? with
    | some (.lst xs), some (.lst ys) => if xs.length + ys.length ≤ 16777216 then Res.ok (D.ref h.length) (h ++ [Ob.lst (xs ++ ys)]) else .no
    | _, _ => .no) = _
  rw [e, e2]
  show (if xs.length + ys.length ≤ 16777216 then _ else _) = _
  rw [if_pos (by omega)]
theorem walk_ref {a : Nat} {xs : List D} {h : Hd} (e : h[a]? = some (.lst xs)) : walk1 (.ref a) h = .ok (liveS a) h := by
  show (match h[a]? with
    | some (.lst _) => Res.ok (liveS a) h
    | some (.fro _) => .ok (liveS a) h
    | _ => .no) = _
  rw [e]
theorem iOf_ref {fe : Fe} {env : En} {a : Nat} {xs : List D} {h h1 : Hd} (e1 : fe env h = .ok (.ref a) h1) (e : h1[a]? = some (.lst xs)) : iOf fe env h = .ok (liveS a) h1 := by
  show (fe env h).bind walk1 = _
  rw [e1]
  exact walk_ref e
theorem iOf_tup {fe : Fe} {env : En} {xs : List D} {h h1 : Hd} (e1 : fe env h = .ok (.tup xs) h1) : iOf fe env h = .ok (fixS xs) h1 := by
  show (fe env h).bind walk1 = _
  rw [e1]
  rfl
theorem at_new {h : Hd} {o : Ob} : (h ++ [o])[h.length]? = some o := by simp
theorem seq_rt {f g : Fs} {env : En} {h h1 : Hd} {d : D} (e : f env h = .rt d h1) : sSeq f g env h = .rt d h1 := by
  show (match f env h with
    | .nx env1 h1 => g env1 h1
    | r => r) = _
  rw [e]
end Mi

set_option Elab.async false
set_option linter.all false
set_option maxRecDepth 100000
set_option maxHeartbeats 2000000
namespace Mi
open PySem PySem.Spec PyProof.Rows L2
/-! ### calls that see nothing of the heap: plain arguments, a plain result (or a new list of plain things) -/
mutual
def pur : D → Bool
  | .non => true
  | .bl _ => true
  | .int _ => true
  | .str _ => true
  | .tup xs => purs xs
  | .ref _ => false
  | .gl _ => true
  | .ty _ => true
  | .exc _ _ _ _ => false
  | .lam _ => false
  | .exv _ _ d _ => pur d
def purs : List D → Bool
  | [] => true
  | d :: r => pur d && purs r
end
section
variable {R : Rx} {α α' : List Addr} {H : Hp}
mutual
theorem pur_any : ∀ {d : D} {v : V}, pur d = true → RelD R α H d v → RelD R α' H d v
  | .non, _, _, h => by unfold RelD at h ⊢; exact h
  | .bl _, _, _, h => by unfold RelD at h ⊢; exact h
  | .int _, _, _, h => by unfold RelD at h ⊢; exact h
  | .str _, _, _, h => by unfold RelD at h ⊢; exact h
  | .tup xs, v, p, h => by
    unfold pur at p
    unfold RelD at h ⊢
    obtain ⟨a, vs, h1, h2, h3⟩ := h
    exact ⟨a, vs, h1, h2, purs_any p h3⟩
  | .ref _, _, p, _ => by unfold pur at p; cases p
  | .gl _, _, _, h => by unfold RelD at h ⊢; exact h
  | .ty _, _, _, h => by unfold RelD at h ⊢; exact h
  | .exc _ _ _ _, _, p, _ => by unfold pur at p; cases p
  | .lam _, _, p, _ => by unfold pur at p; cases p
  | .exv c f d m, v, p, h => by
    unfold pur at p
    unfold RelD at h ⊢
    obtain ⟨a, dd, t, C, v', h1, h2, h3, h6, h4, h5⟩ := h
    exact ⟨a, dd, t, C, v', h1, h2, h3, h6, h4, pur_any p h5⟩
theorem purs_any : ∀ {ds : List D} {vs : List V}, purs ds = true → RelDs R α H ds vs → RelDs R α' H ds vs
  | [], vs, _, h => by unfold RelDs at h ⊢; exact h
  | d :: ds, vs, p, h => by
    unfold purs at p
    obtain ⟨p1, p2⟩ := He.ba p
    unfold RelDs at h ⊢
    obtain ⟨v, r, h1, h2, h3⟩ := h
    exact ⟨v, r, h1, pur_any p1 h2, purs_any p2 h3⟩
end
end
/-- a result of a call in an empty heap, brought to the heap h -/
def outD (d : D) (h2 h : Hd) : Option (D × Hd) := if pur d = true then some (d, h) else (match d with
  | .ref n => (match h2[n]? with
    | some (.lst xs) => if purs xs = true then some (.ref h.length, h ++ [.lst xs]) else none
    | _ => none)
  | _ => none)
def loc (F : List D → Hd → Res D) : List D → Hd → Res D := fun ds h => if purs ds = true then (match F ds [] with
  | .ok d h2 => (match outD d h2 h with
    | some (d', h') => .ok d' h'
    | none => F ds h)
  | .ex e _ => if pur e.v = true then .ex e h else F ds h
  | .no => .no) else F ds h
section
variable {R : Rx} {α α2 : List Addr} {H H' : Hp} {h h2 : Hd}
theorem Ext.wide (r : RH R α h H) (x : Ext [] H α2 H') : Ext α H α H' := ⟨⟨[], by simp, by simp⟩, x.st, fun a o e _ n => x.fr a o e (by simp) n, x.dom⟩
theorem RelO.tbl {o : Ob} {a : Addr} {ho : HO} (r : RelO R α H o a) (e : H a = Option.some ho) : ∀ ps, ho ≠ .tbl ps := fun ps z => by
  subst z
  cases o with
  | lst xs => obtain ⟨vs, q, _⟩ := r; rw [e] at q; cases q
  | fro xs => obtain ⟨vs, ob, q, _⟩ := r; rw [e] at q; cases q
  | dic kvs => obtain ⟨vs, q, _⟩ := r; rw [e] at q; cases q
theorem RH.wide (r : RH R α h H) (x : Ext [] H α2 H') (t : LamX.Tabs R.T H') : RH R α h H' := ⟨r.len, r.nd, fun n o e => by
  obtain ⟨a, h1, h2⟩ := r.obj n o e
  obtain ⟨ho, h3⟩ := h2.some
  exact ⟨a, h1, h2.ext (x.wide r) (by rw [h3]; exact x.fr a ho h3 (by simp) (h2.tbl h3))⟩, t, R.mono (x.wide r) r.kp⟩
/-- with the new list at a -/
theorem Ext.wide1 (r : RH R α h H) (x : Ext [] H α2 H') {a : Addr} (ha : a ∈ α2) : Ext α H (α ++ [a]) H' := by
  obtain ⟨β, e, f⟩ := x.pre
  refine ⟨⟨[a], rfl, fun b hb => ?_⟩, x.st, fun b o q _ n => x.fr b o q (by simp) n, x.dom⟩
  rw [List.mem_singleton.mp hb]
  rw [List.nil_append] at e
  exact f a (by rw [← e]; exact ha)
theorem RH.wide1 (r : RH R α h H) (x : Ext [] H α2 H') (t : LamX.Tabs R.T H') {a : Addr} (ha : a ∈ α2) {xs : List D} {vs : List V} (q : H' a = some (.lst vs)) (rx : RelDs R (α ++ [a]) H' xs vs) : RH R (α ++ [a]) (h ++ [.lst xs]) H' := by
  have xw := Ext.wide1 r x ha
  have r2 := r.wide x t
  have na : a ∉ α := fun z => by
    obtain ⟨i, hi⟩ := List.mem_iff_getElem?.mp z
    have hl : i < h.length := by rw [← r.len]; exact (List.getElem?_eq_some_iff.mp hi).1
    obtain ⟨b, h1, h2⟩ := r.obj i h[i] (List.getElem?_eq_getElem hl)
    rw [hi] at h1
    cases h1
    obtain ⟨ho, h3⟩ := h2.some
    obtain ⟨β, e, f⟩ := x.pre
    rw [List.nil_append] at e
    obtain ⟨ps, z⟩ := f a (by rw [← e]; exact ha) ho h3
    exact h2.tbl h3 ps z
  refine ⟨by rw [List.length_append, List.length_append, r.len]; rfl, ?_, fun n o e => ?_, t, R.mono xw r.kp⟩
  · rw [List.nodup_append]
    refine ⟨r.nd, by simp, fun b hb c hc => ?_⟩
    have : c = a := by simpa using hc
    subst this
    exact fun z => na (by rw [← z]; exact hb)
  · by_cases hn : n < h.length
    · rw [List.getElem?_append_left hn] at e
      obtain ⟨b, h1, h2⟩ := r.obj n o e
      obtain ⟨ho, h3⟩ := h2.some
      exact ⟨b, xw.get h1, h2.ext xw (by rw [h3]; exact x.fr b ho h3 (by simp) (h2.tbl h3))⟩
    · have en : n = h.length := by
        have := (List.getElem?_eq_some_iff.mp e).1
        rw [List.length_append] at this
        have : n < h.length + 1 := this
        omega
      subst en
      rw [List.getElem?_append_right (Nat.le_refl _)] at e
      simp at e
      subst e
      refine ⟨a, by rw [← r.len, List.getElem?_append_right (Nat.le_refl _)]; simp, vs, q, rx⟩
end
theorem spD_loc {R : Rx} {n : Nat} {F : List D → Hd → Res D} (hk : ∀ α H, R.kept α H) {vs : List V} {H : Hp} {Q : VK} {E : XK} (s : spD R n (loc F) vs H Q E) : spD R n F vs H Q E := by
  obtain ⟨hl, α, ds, h, rd, rh, f⟩ := s
  by_cases hp : purs ds = true
  case neg =>
    unfold loc at f
    rw [if_neg hp] at f
    exact ⟨hl, α, ds, h, rd, rh, f⟩
  unfold loc at f
  rw [if_pos hp] at f
  have small : (match F ds [] with
      | .ok d h' => ∀ α' H' v, Ext [] H α' H' → RH R α' h' H' → RelD R α' H' d v → Q v H'
      | .ex e h' => ∀ α' H' cls dd, Ext [] H α' H' → RH R α' h' H' → RelX R α' H' e cls dd → E cls (some dd) H'
      | .no => False) → spD R n F vs H Q E := fun g => ⟨hl, [], ds, [], purs_any hp rd, ⟨rfl, List.nodup_nil, fun i o e => by simp at e, rh.tab, hk _ _⟩, g⟩
  have plain : (match F ds h with
      | .ok d h' => ∀ α' H' v, Ext α H α' H' → RH R α' h' H' → RelD R α' H' d v → Q v H'
      | .ex e h' => ∀ α' H' cls dd, Ext α H α' H' → RH R α' h' H' → RelX R α' H' e cls dd → E cls (some dd) H'
      | .no => False) → spD R n F vs H Q E := fun g => ⟨hl, α, ds, h, rd, rh, g⟩
  cases er : F ds [] with
  | no => rw [er] at f; exact (show False from f).elim
  | ex e h2 =>
    rw [er] at f small
    dsimp only at f
    by_cases q : pur e.v = true
    · rw [if_pos q] at f
      refine small fun α2 H' cls dd x rh2 rx => ?_
      obtain ⟨C, v', g1, g2, g3, g4⟩ := rx
      exact f α H' cls dd (x.wide rh) (rh.wide x rh2.tab) ⟨C, v', g1, g2, g3, pur_any q g4⟩
    · rw [if_neg q] at f
      exact plain f
  | ok d h2 =>
    rw [er] at f small
    dsimp only at f
    cases eo : outD d h2 h with
    | none => rw [eo] at f; exact plain f
    | some p =>
      obtain ⟨d', h'⟩ := p
      rw [eo] at f
      dsimp only at f
      refine small fun α2 H' v x rh2 rd2 => ?_
      unfold outD at eo
      by_cases q : pur d = true
      · rw [if_pos q] at eo
        cases eo
        exact f α H' v (x.wide rh) (rh.wide x rh2.tab) (pur_any q rd2)
      · rw [if_neg q] at eo
        cases d with
        | ref m =>
          dsimp only at eo
          cases e2 : h2[m]? with
          | none => rw [e2] at eo; cases eo
          | some o =>
            rw [e2] at eo
            cases o with
            | lst xs =>
              dsimp only at eo
              by_cases q2 : purs xs = true
              · rw [if_pos q2] at eo
                cases eo
                obtain ⟨a, ea, rfl⟩ := rd2.ref_inv
                obtain ⟨a', ea', vs', ho, rl⟩ := rh2.obj m _ e2
                rw [ea] at ea'
                cases ea'
                have ha : a ∈ α2 := List.mem_of_getElem? ea
                exact f (α ++ [a]) H' (.ref a) (Ext.wide1 rh x ha) (rh.wide1 x rh2.tab ha ho (purs_any q2 rl)) (.ref (by rw [← rh.len, List.getElem?_append_right (Nat.le_refl _)]; simp))
              · rw [if_neg q2] at eo
                cases eo
            | fro xs => cases eo
            | dic xs => cases eo
        | _ => cases eo
theorem FDx.loc {P : Program} {w : World} {K : PySem.W.Frag} {mg : Str → Option Value} {Tt : List (Addr × Str)} {base : Heap} {d : He.DefD} {ps : List Str} {k : Nat} {F : List D → Hd → Res D} (hF : FDx P w K mg Tt base d ps k F) : FDx P w K mg Tt base d ps k (Mi.loc F) := by
  obtain ⟨fd, FD, fn⟩ := hF.ex
  exact ⟨fd, FD, ⟨fun vs H Q E s => fn.len vs H Q E (spD_loc (fun _ _ => trivial) s), fun A outer s H args us vs Q E hr e0 hb r sp => fn.run A outer s H args us vs Q E hr e0 hb r (spD_loc (fun _ _ => trivial) sp)⟩⟩
end Mi

set_option Elab.async false
set_option linter.all false
set_option maxRecDepth 100000
set_option maxHeartbeats 2000000
namespace Mi
open PySem PySem.Spec PyProof.Rows L2
/-! ### zip of two tuples or two lists -/
def zipS (s t : Src) : Src := fun h i => match s h i with
  | .item d => (match t h i with
    | .item e => .item (.tup [d, e])
    | .stop => .stop
    | .bad => .bad)
  | .stop => (match t h i with
    | .bad => .bad
    | _ => .stop)
  | .bad => .bad
def isSeq (n : Nat) (h : Hd) : Bool := match h[n]? with
  | some (.lst _) => true
  | some (.fro _) => true
  | _ => false
def iZip (fa : Fa) : Fi := fun env h => (fa env h).bind fun ds h1 => match ds with
  | [.tup xs, .tup ys] => .ok (zipS (fixS xs) (fixS ys)) h1
  | [.ref m, .ref n] => if (isSeq m h1 && isSeq n h1) = true then .ok (zipS (liveS m) (liveS n)) h1 else .no
  | _ => .no
theorem seq_at {n : Nat} {h : Hd} (q : isSeq n h = true) : ∃ xs, h[n]? = some (.lst xs) ∨ h[n]? = some (.fro xs) := by
  unfold isSeq at q
  split at q
  · rename_i xs e; exact ⟨xs, .inl e⟩
  · rename_i xs e; exact ⟨xs, .inr e⟩
  · cases q
section
variable {R : Rx}
theorem rel_zipT {α : List Addr} {H : Hp} {a b : Addr} {xs ys : List D} {vs ws : List V} (hq : SqT R.K H a vs) (r : RelDs R α H xs vs) (hq2 : SqT R.K H b ws) (r2 : RelDs R α H ys ws) : RelI R α H (zipS (fixS xs) (fixS ys)) (RZ.ItzT R.K a b) := by
  intro α' H' h' i x rh
  have q1 := x.sqT hq
  have q2 := x.sqT hq2
  have r1' := RelDs.ext x _ _ r
  have r2' := RelDs.ext x _ _ r2
  unfold zipS fixS
  cases e : xs[i]? with
  | none =>
    have l : vs.length ≤ i := by rw [← r1'.length]; exact List.getElem?_eq_none_iff.mp e
    dsimp only
    cases e2 : ys[i]? with
    | none => exact ⟨vs, ws, q1, q2, .inl l⟩
    | some d2 => exact ⟨vs, ws, q1, q2, .inl l⟩
  | some d =>
    obtain ⟨v, ev, rv⟩ := r1'.get e
    dsimp only
    cases e2 : ys[i]? with
    | none =>
      have l : ws.length ≤ i := by rw [← r2'.length]; exact List.getElem?_eq_none_iff.mp e2
      exact ⟨vs, ws, q1, q2, .inr l⟩
    | some d2 =>
      obtain ⟨w, ew, rw_⟩ := r2'.get e2
      exact ⟨⟨vs, ws, v, w, q1, q2, ev, ew⟩, fun y H'' hy => by
        obtain ⟨T, z, z2, rfl, hT, rfl, hy1, hy2⟩ := hy
        have a1 := hy1 vs q1
        rw [ev] at a1
        cases a1
        have a2 := hy2 ws q2
        rw [ew] at a2
        cases a2
        exact new_tup rh (.cons rv (.cons rw_ .nil)) hT⟩
theorem rel_zipL {α : List Addr} {H : Hp} {a b : Addr} {m n : Nat} (ha : α[m]? = some a) (hb : α[n]? = some b) : RelI R α H (zipS (liveS m) (liveS n)) (Itz R.K a b) := by
  intro α' H' h' i x rh
  have go : ∀ xs ys, (h'[m]? = some (.lst xs) ∨ h'[m]? = some (.fro xs)) → (h'[n]? = some (.lst ys) ∨ h'[n]? = some (.fro ys)) → match zipS (fixS xs) (fixS ys) h' i with
      | .item d => (Itz R.K a b).go i H' ∧ ∀ x H'', (Itz R.K a b).yld i H' x H'' → Ext α' H' α' H'' ∧ RH R α' h' H'' ∧ RelD R α' H'' d x
      | .stop => (Itz R.K a b).stop i H'
      | .bad => True := fun xs ys hx hy => by
    obtain ⟨vs, q1, r1'⟩ := lst_of rh (x.get ha) hx
    obtain ⟨ws, q2, r2'⟩ := lst_of rh (x.get hb) hy
    unfold zipS fixS
    cases e : xs[i]? with
    | none =>
      have l : vs.length ≤ i := by rw [← r1'.length]; exact List.getElem?_eq_none_iff.mp e
      dsimp only
      cases e2 : ys[i]? with
      | none => exact ⟨vs, ws, q1, q2, .inl l⟩
      | some d2 => exact ⟨vs, ws, q1, q2, .inl l⟩
    | some d =>
      obtain ⟨v, ev, rv⟩ := r1'.get e
      dsimp only
      cases e2 : ys[i]? with
      | none =>
        have l : ws.length ≤ i := by rw [← r2'.length]; exact List.getElem?_eq_none_iff.mp e2
        exact ⟨vs, ws, q1, q2, .inr l⟩
      | some d2 =>
        obtain ⟨w, ew, rw_⟩ := r2'.get e2
        exact ⟨⟨vs, ws, v, w, q1, q2, ev, ew⟩, fun y H'' hy => by
          obtain ⟨T, z, z2, rfl, hT, rfl, hy1, hy2⟩ := hy
          have a1 := hy1 vs q1
          rw [ev] at a1
          cases a1
          have a2 := hy2 ws q2
          rw [ew] at a2
          cases a2
          exact new_tup rh (.cons rv (.cons rw_ .nil)) hT⟩
  unfold zipS liveS at *
  cases e : h'[m]? with
  | none => trivial
  | some o =>
    cases e2 : h'[n]? with
    | none =>
      cases o with
      | lst xs => dsimp only; cases fixS xs h' i <;> trivial
      | fro xs => dsimp only; cases fixS xs h' i <;> trivial
      | dic kvs => trivial
    | some o2 =>
      cases o with
      | dic kvs => trivial
      | lst xs =>
        cases o2 with
        | lst ys => exact go xs ys (.inl e) (.inl e2)
        | fro ys => exact go xs ys (.inl e) (.inr e2)
        | dic kvs => dsimp only; cases fixS xs h' i <;> trivial
      | fro xs =>
        cases o2 with
        | lst ys => exact go xs ys (.inr e) (.inl e2)
        | fro ys => exact go xs ys (.inr e) (.inr e2)
        | dic kvs => dsimp only; cases fixS xs h' i <;> trivial
end
section
variable {X : Cx} {R : Rx} {W : WX} {pos : Pos} {e e2 : Expr} {fa : Fa}
theorem di_zip {elts : List Expr} {kk : Nat} {tpos p : Pos} (hK : R.K = X.K) (hg : Gl X "zip") (hm : X.mg "zip" = none) (ha : DA X R W [e, e2] fa)
    (hs : starEach [e, e2] X.env = (false, eval e X.env) :: starEach [e2] X.env := by rfl) (hpl : (backTo pos (starEach [e2] X.env)).any (·.1) = false := by rfl) : DI X R W (.Tuple elts kk tpos) (.Call (.Name "zip" p) [e, e2] [] pos) (iZip fa) := by
  refine ⟨fun pins s σ H Q I h => (RZ.pi_zipA (tpos := tpos) (elts := elts) (kk := kk) hg hm ha hs hpl).run pins s σ H Q I ?_⟩
  obtain ⟨α, env, hp, re, rh, fi⟩ := h
  refine ⟨α, env, hp, re, rh, (Fin.split fi).imp fun vs H1 hq => ?_⟩
  obtain ⟨ds, α1, h1, _, x1, rh1, rd1, f1⟩ := hq
  have shape : (∃ xs ys, ds = [.tup xs, .tup ys]) ∨ ∃ m n, ds = [.ref m, .ref n] := by
    match ds, f1 with
    | [.tup xs, .tup ys], _ => exact .inl ⟨xs, ys, rfl⟩
    | [.ref m, .ref n], _ => exact .inr ⟨m, n, rfl⟩
    | [], f1 => exact (show False from f1).elim
    | [x], f1 => cases x <;> exact (show False from f1).elim
    | x :: y :: z :: t, f1 => cases x <;> cases y <;> exact (show False from f1).elim
    | [x, y], f1 =>
      cases x <;> cases y <;> first | exact .inl ⟨_, _, rfl⟩ | exact .inr ⟨_, _, rfl⟩ | exact (show False from f1).elim
  rcases shape with ⟨xs, ys, rfl⟩ | ⟨m, n, rfl⟩
  · obtain ⟨v, v', rfl, r1, r2⟩ := rd1.two
    obtain ⟨a, vs, rfl, q1, s1⟩ := r1.tup_inv
    obtain ⟨b, ws, rfl, q2, s2⟩ := r2.tup_inv
    exact ⟨a, b, vs, ws, rfl, .inr ⟨hK ▸ q1, hK ▸ q2, f1 α1 H1 _ .refl rh1 (hK ▸ rel_zipT q1 s1 q2 s2)⟩⟩
  · dsimp only at f1
    split at f1
    · rename_i hsq
      obtain ⟨g1, g2⟩ := He.ba hsq
      obtain ⟨xs, hx⟩ := seq_at g1
      obtain ⟨ys, hy⟩ := seq_at g2
      obtain ⟨v, v', rfl, r1, r2⟩ := rd1.two
      obtain ⟨a, ea, rfl⟩ := r1.ref_inv
      obtain ⟨b, eb, rfl⟩ := r2.ref_inv
      obtain ⟨vs, q1, _⟩ := lst_of rh1 ea hx
      obtain ⟨ws, q2, _⟩ := lst_of rh1 eb hy
      exact ⟨a, b, vs, ws, rfl, .inl ⟨hK ▸ q1, hK ▸ q2, f1 α1 H1 _ .refl rh1 (hK ▸ rel_zipL ea eb)⟩⟩
    · exact (show False from f1).elim
end
/-! ### a text walked -/
def strS (x : Str) : Src := fun _ i => match x.cps[i]? with
  | some c => .item (.str ⟨#[c]⟩)
  | none => .stop
def walkA : D → Hd → Res Src := fun d h => match d with
  | .str x => .ok (strS x) h
  | _ => walk1 d h
def iOfA (f : Fe) : Fi := fun env h => (f env h).bind walkA
theorem rel_str {R : Rx} {α : List Addr} {H : Hp} {x : Str} : RelI R α H (strS x) (Its x) := by
  intro α' H' h' i _ rh
  unfold strS
  cases e : x.cps[i]? with
  | none => exact Array.getElem?_eq_none_iff.mp e
  | some c =>
    refine ⟨(Array.getElem?_eq_some_iff.mp e).1, fun y H'' hy => ?_⟩
    obtain ⟨rfl, c', e', rfl⟩ := hy
    rw [e] at e'
    cases e'
    exact ⟨.refl, rh, .str⟩
section
variable {X : Cx} {R : Rx} {W : WX} {pos : Pos} {e tg : Expr} {fe : Fe}
theorem di_ofA (hK : R.K = X.K) (he : DE X R W e fe) : DI X R W tg e (iOfA fe) := by
  refine ⟨fun pins s σ H Q I h => ?_⟩
  obtain ⟨α, env, hp, re, rh, fi⟩ := h
  refine thn (he.run pins s σ H _ I ⟨α, env, hp, re, rh, Fin.split (g := walkA) fi⟩) fun u s1 ⟨v, H1, I1, r1, q1⟩ => ?_
  obtain ⟨d, α1, h1, _, x1, rh1, rd1, f1⟩ := q1
  cases d with
  | str x =>
    rw [rd1.str_inv] at r1
    obtain ⟨t, rfl⟩ := r1
    have q := f1 α1 H1 _ .refl rh1 (rel_str (x := x))
    cases ha : x.cps.all (· < 128)
    · exact wpAny_pyIter_wide ha (pi_one (tk := s1.toks) I1 _ (turn_str _ x t "str_iterator" (.inr rfl)) ⟨_, Heap.get?_push_size _ rfl, rfl, rfl⟩ q)
    · exact wpAny_pyIter_ascii ha (pi_one (tk := s1.toks) I1 _ (turn_str _ x t "str_ascii_iterator" (.inl rfl)) ⟨_, Heap.get?_push_size _ rfl, rfl, rfl⟩ q)
  | _ => exact pie_walk hK I1 r1 rh1 rd1 f1
end
/-! ### gcd -/
def gGcd : Gc := fun ds h => match ds with
  | [.int a, .int b] => .ok (.int ((Nat.gcd a.natAbs b.natAbs : Nat) : Int)) h
  | _ => .no
theorem cd_gcd {X : Cx} {R : Rx} : CallD X R (.builtin "math.gcd") gGcd := by
  intro ds α h H vs W σ Q rh rd f
  unfold gGcd at f
  split at f
  · obtain ⟨v, v', rfl, r1, r2⟩ := rd.two
    rw [r1.int_inv, r2.int_inv]
    exact ⟨_, cr_gcd, _, _, rfl, f α H _ .refl rh .int⟩
  · exact f.elim
/-- a built-in function that the module imported -/
theorem de_callI {X : Cx} {R : Rx} {W : WX} {x : Str} {p pos : Pos} {e : Expr} {es : List Expr} {fa : Fa} {bid : String} {g : Gc} (hc : CallD X R (.builtin bid) g) (hg : Gl X x) (hm : X.mg x = some (.builtin bid)) (ha : DA X R W (e :: es) fa) (hdb : (x == ("__debug__" : Str)) = false := by decide)
    (he : starEach (e :: es) X.env = (false, eval e X.env) :: starEach es X.env := by rfl) (hpl : (backTo pos (starEach es X.env)).any (·.1) = false := by rfl) : DE X R W (.Call (.Name x p) (e :: es) [] pos) (eCall g fa) := by
  have hU : CallR X (.builtin bid) (fun vs H Q => ∃ r, CallR X (.builtin bid) r ∧ r vs H Q) := fun pins s σ H xs us Q I rs ⟨r, h1, h2⟩ => h1 pins s σ H xs us Q I rs h2
  refine ⟨fun pins s σ H Q I h => ?_⟩
  obtain ⟨α, env, hp, re, rh, fi⟩ := h
  refine wpAny_Call_Name_kw (ld_glob I hg hm ?_ hdb)
  exact PyProof.Rows.callWith_builtin1 (thn (ha.run pos pins s σ H (fun vs H1 => ∃ r, CallR X (.builtin bid) r ∧ r vs H1 Q) I ⟨α, env, hp, re, rh, (Fin.split (g := g) fi).imp fun v H1 hq => by
    obtain ⟨d, α1, h1, _, x1, rh1, r1, f1⟩ := hq
    exact hc _ _ _ _ _ _ _ _ rh1 r1 f1⟩) fun us s1 ⟨vs, H1, I1, r1, q1⟩ => hU pins s1 σ H1 vs us Q I1 r1 q1) he hpl
/-! ### methods of texts -/
def strsD : List D → Option (List Str)
  | [] => some []
  | .str x :: r => (match strsD r with
    | some l => some (x :: l)
    | none => none)
  | _ => none
theorem strsD_rel {R : Rx} {α : List Addr} {H : Hp} : ∀ {ds : List D} {ns : List Str} {vs : List V}, strsD ds = some ns → RelDs R α H ds vs → vs = ns.map V.str
  | [], ns, vs, e, r => by unfold strsD at e; cases e; rw [r.nil_inv]; rfl
  | d :: ds, ns, vs, e, r => by
    obtain ⟨v, r', rfl, h1, h2⟩ := r.cons_inv
    cases d with
    | str i =>
      unfold strsD at e
      cases e2 : strsD ds with
      | none => rw [e2] at e; cases e
      | some l =>
        rw [e2] at e
        cases e
        rw [h1.str_inv, strsD_rel e2 h2]
        rfl
    | _ => unfold strsD at e; cases e
def mCount : Gm := fun x ds h => match x, ds with
  | .str a, [.str b] => .ok (.int (Txt.count a b)) h
  | _, _ => .no
def mJoin : Gm := fun x ds h => match x, ds with
  | .str a, [d] => (match seqD d h with
    | some xs => (match strsD xs with
      | some ys => if (ys.map (·.length)).sum + ys.length * a.length ≤ 16777216 then .ok (.str (Txt.join a ys)) h else .no
      | none => .no)
    | none => .no)
  | _, _ => .no
section
variable {X : Cx} {R : Rx}
theorem md_count : MtD X R "str.count" mCount := by
  intro x ds α h H v vs W σ Q rh rx rd f
  unfold mCount at f
  split at f
  · obtain ⟨u, rfl, r⟩ := rd.one
    rw [rx.str_inv, r.str_inv]
    exact ⟨_, mt_count, _, _, rfl, rfl, f α H _ .refl rh .int⟩
  · exact f.elim
theorem md_join (hK : R.K = X.K) : MtD X R "str.join" mJoin := by
  intro x ds α h H v vs W σ Q rh rx rd f
  cases x with
  | str a =>
    match ds, rd, f with
    | [], _, f => exact (show False from f).elim
    | _ :: _ :: _, _, f => exact (show False from f).elim
    | [d], rd, f =>
      unfold mJoin at f
      dsimp only at f
      obtain ⟨u, rfl, r⟩ := rd.one
      cases es : seqD d h with
      | none => rw [es] at f; exact f.elim
      | some xs =>
        rw [es] at f
        dsimp only at f
        obtain ⟨p, ws, rfl, hq, rs⟩ := seq_of rh r es
        cases ey : strsD xs with
        | none => rw [ey] at f; exact f.elim
        | some ys =>
          rw [ey] at f
          dsimp only at f
          split at f
          · rename_i hl
            rw [rx.str_inv]
            refine ⟨_, mt_join, a, p, ys, rfl, rfl, ?_, hl, f α H _ .refl rh .str⟩
            rw [← strsD_rel ey rs]
            exact hK ▸ hq
          · exact f.elim
  | _ => exact (show False from f).elim
end
/-! ### in: a list, a tuple, a text -/
def gInA (neg : Bool) : D → D → Hd → Res D := fun x y h => match y with
  | .str j => (match x with
    | .str i => .ok (.bl (xor neg (!(Builtin.Str.occurrences j i 0 j.length 1).isEmpty))) h
    | _ => .no)
  | .tup ys => (match toP maxP h x, toP maxP h (.tup ys) with
    | some d, some (.tuple ds) => if (SeqAt.shaped d && SeqAt.shaped (.tuple ds)) = true then .ok (.bl (xor neg (ds.any fun z => PyData.eqv z d))) h else .no
    | _, _ => .no)
  | _ => gIn neg x y h
section
variable {X : Cx} {R : Rx}
theorem canT {ds : List PyData} (s : SeqAt.shaped (.tuple ds) = true) : PyData.canLayAll0 ds = true := by
  unfold SeqAt.shaped at s
  exact (He.ba s).1
theorem roomT {ds : List PyData} {d : PyData} (s : SeqAt.shaped d = true) {k : Nat} (hu : k + 65 < cLine) : k + 1 + min (PyData.depthAll ds) d.depth < cLine := by
  unfold SeqAt.shaped at s
  have := of_decide_eq_true (He.ba s).2
  omega
theorem od_inA (hK : R.K = X.K) (hu : X.A.units + 65 < cLine) : OpD X R (compareOp .In) (gInA false) := by
  intro x y α h H vx vy W σ Q rh rx ry f
  cases y with
  | str j =>
    cases x with
    | str i =>
      rw [rx.str_inv, ry.str_inv]
      have f : FinE R W α H σ (.ok (.bl (xor false (!(Builtin.Str.occurrences j i 0 j.length 1).isEmpty))) h) Q := f
      rw [Bool.false_xor] at f
      exact ⟨_, op_in_str, _, _, rfl, rfl, f α H _ .refl rh .bl⟩
    | _ => exact (show False from f).elim
  | tup ys =>
    unfold gInA at f
    dsimp only at f
    cases e1 : toP maxP h x with
    | none => rw [e1] at f; exact f.elim
    | some d =>
      cases e2 : toP maxP h (.tup ys) with
      | none => rw [e1, e2] at f; exact f.elim
      | some p =>
        rw [e1, e2] at f
        cases p with
        | tuple ds =>
          dsimp only at f
          split at f
          · rename_i hs
            rw [Bool.and_eq_true] at hs
            have q := f α H _ .refl rh .bl
            rw [Bool.false_xor] at q
            refine ⟨fun x' y' H' Q' => Dp X.K H' x' d ∧ Dp X.K H' y' (.tuple ds) ∧ Q' (.bl (ds.any fun z => PyData.eqv z d)) H', fun pins s σ' H' x' y' v u Q' I r1 r2 hq => ?_, hK ▸ toP_dp rh e1 rx, hK ▸ toP_dp rh e2 ry, q⟩
            obtain ⟨d1, d2, q⟩ := hq
            obtain ⟨as, l1⟩ := Dp.reads I d x' v d1 r1
            obtain ⟨bs, l2⟩ := Dp.reads I (.tuple ds) y' u d2 r2
            exact SeqAt.in_tuple_reads l2 l1 (canT hs.2) (SeqAt.canLay_of_shaped hs.1) (roomT hs.1 hu) ⟨.bl _, H', I, rfl, q⟩
          · exact f.elim
        | _ => exact (show False from f).elim
  | _ => exact od_in hK hu _ _ _ _ _ _ _ _ _ _ rh rx ry f
theorem od_notinA (hK : R.K = X.K) (hu : X.A.units + 65 < cLine) : OpD X R (compareOp .NotIn) (gInA true) := by
  intro x y α h H vx vy W σ Q rh rx ry f
  cases y with
  | str j =>
    cases x with
    | str i =>
      rw [rx.str_inv, ry.str_inv]
      have f : FinE R W α H σ (.ok (.bl (xor true (!(Builtin.Str.occurrences j i 0 j.length 1).isEmpty))) h) Q := f
      rw [Bool.true_xor] at f
      exact ⟨_, op_notin_str, _, _, rfl, rfl, f α H _ .refl rh .bl⟩
    | _ => exact (show False from f).elim
  | tup ys =>
    unfold gInA at f
    dsimp only at f
    cases e1 : toP maxP h x with
    | none => rw [e1] at f; exact f.elim
    | some d =>
      cases e2 : toP maxP h (.tup ys) with
      | none => rw [e1, e2] at f; exact f.elim
      | some p =>
        rw [e1, e2] at f
        cases p with
        | tuple ds =>
          dsimp only at f
          split at f
          · rename_i hs
            rw [Bool.and_eq_true] at hs
            have q := f α H _ .refl rh .bl
            rw [Bool.true_xor] at q
            refine ⟨fun x' y' H' Q' => Dp X.K H' x' d ∧ Dp X.K H' y' (.tuple ds) ∧ Q' (.bl (!ds.any fun z => PyData.eqv z d)) H', fun pins s σ' H' x' y' v u Q' I r1 r2 hq => ?_, hK ▸ toP_dp rh e1 rx, hK ▸ toP_dp rh e2 ry, q⟩
            obtain ⟨d1, d2, q⟩ := hq
            obtain ⟨as, l1⟩ := Dp.reads I d x' v d1 r1
            obtain ⟨bs, l2⟩ := Dp.reads I (.tuple ds) y' u d2 r2
            exact SeqAt.notIn_tuple_reads l2 l1 (canT hs.2) (SeqAt.canLay_of_shaped hs.1) (roomT hs.1 hu) ⟨.bl _, H', I, rfl, q⟩
          · exact f.elim
        | _ => exact (show False from f).elim
  | _ => exact od_notin hK hu _ _ _ _ _ _ _ _ _ _ rh rx ry f
end
end Mi

set_option Elab.async false
set_option linter.all false
set_option maxRecDepth 100000
set_option maxHeartbeats 1000000
namespace Mi
open PySem PySem.Spec PyProof.Rows L2
/-! ### local calls, as steps -/
section
variable {F : List D → Hd → Res D} {ds : List D} {h h2 : Hd} {d : D}
theorem loc_ok (e : F ds [] = .ok d h2) (pa : purs ds = true) (pd : pur d = true) : loc F ds h = .ok d h := by
  unfold loc
  rw [if_pos pa, e]
  show (match outD d h2 h with
    | some (d', h') => Res.ok d' h'
    | none => F ds h) = _
  unfold outD
  rw [if_pos pd]
theorem loc_lst {xs : List D} {n : Nat} (e : F ds [] = .ok (.ref n) h2) (pa : purs ds = true) (q : h2[n]? = some (.lst xs)) (px : purs xs = true) : loc F ds h = .ok (.ref h.length) (h ++ [.lst xs]) := by
  unfold loc
  rw [if_pos pa, e]
  show (match outD (.ref n) h2 h with
    | some (d', h') => Res.ok d' h'
    | none => F ds h) = _
  unfold outD
  rw [if_neg (by unfold pur; decide)]
  dsimp only
  rw [q]
  dsimp only
  rw [if_pos px]
theorem loc_ex {e : Exn} (q : F ds [] = .ex e h2) (pa : purs ds = true) (pd : pur e.v = true) : loc F ds h = .ex e h := by
  unfold loc
  rw [if_pos pa, q]
  show (if pur e.v = true then Res.ex e h else F ds h) = _
  rw [if_pos pd]
theorem loc_plain (pa : purs ds = false) : loc F ds h = F ds h := by
  unfold loc
  rw [if_neg (by rw [pa]; decide)]
theorem loc_fall (e : F ds [] = .ok d h2) (o : outD d h2 h = none) : loc F ds h = F ds h := by
  unfold loc
  by_cases pa : purs ds = true
  · rw [if_pos pa, e]
    show (match outD d h2 h with
      | some (d', h') => Res.ok d' h'
      | none => F ds h) = _
    rw [o]
  · rw [if_neg pa]
end
/-- the value of a local call, for the kernel to reckon: none where there is none -/
def valL (F : List D → Hd → Res D) (ds : List D) : Option D := if purs ds = true then (match F ds [] with
  | .ok d _ => if pur d = true then some d else none
  | _ => none) else none
theorem valL_ok {F : List D → Hd → Res D} {ds : List D} {d : D} (e : valL F ds = some d) (h : Hd) : loc F ds h = .ok d h := by
  unfold valL at e
  split at e
  · rename_i pa
    split at e
    · rename_i d' h2 q
      split at e
      · rename_i pd
        cases e
        exact loc_ok q pa pd
      · cases e
    · cases e
  · cases e
/-! a plain value told apart, for the kernel -/
mutual
def sameD : D → D → Bool
  | .non, .non => true
  | .bl a, .bl b => a == b
  | .int i, .int j => decide (i = j)
  | .str x, .str y => decide (x = y)
  | .tup xs, .tup ys => samesD xs ys
  | _, _ => false
def samesD : List D → List D → Bool
  | [], [] => true
  | x :: xs, y :: ys => sameD x y && samesD xs ys
  | _, _ => false
end
mutual
theorem sameD_eq : ∀ {x y : D}, sameD x y = true → x = y
  | .non, y, h => by cases y <;> first | rfl | (unfold sameD at h; cases h)
  | .bl a, y, h => by
    cases y with
    | bl b => unfold sameD at h; rw [eq_of_beq h]
    | _ => unfold sameD at h; cases h
  | .int a, y, h => by
    cases y with
    | int b => unfold sameD at h; rw [of_decide_eq_true h]
    | _ => unfold sameD at h; cases h
  | .str a, y, h => by
    cases y with
    | str b => unfold sameD at h; rw [of_decide_eq_true h]
    | _ => unfold sameD at h; cases h
  | .tup a, y, h => by
    cases y with
    | tup b => unfold sameD at h; rw [samesD_eq h]
    | _ => unfold sameD at h; cases h
  | .ref _, y, h => by cases y <;> (unfold sameD at h; cases h)
  | .gl _, y, h => by cases y <;> (unfold sameD at h; cases h)
  | .ty _, y, h => by cases y <;> (unfold sameD at h; cases h)
  | .exc _ _ _ _, y, h => by cases y <;> (unfold sameD at h; cases h)
  | .lam _, y, h => by cases y <;> (unfold sameD at h; cases h)
  | .exv _ _ _ _, y, h => by cases y <;> (unfold sameD at h; cases h)
theorem samesD_eq : ∀ {xs ys : List D}, samesD xs ys = true → xs = ys
  | [], ys, h => by cases ys <;> first | rfl | (unfold samesD at h; cases h)
  | x :: xs, ys, h => by
    cases ys with
    | nil => unfold samesD at h; cases h
    | cons y ys =>
      unfold samesD at h
      obtain ⟨h1, h2⟩ := He.ba h
      rw [sameD_eq h1, samesD_eq h2]
end
/-- the kernel's look at a local call -/
def isL (F : List D → Hd → Res D) (ds : List D) (d : D) : Bool := match valL F ds with
  | some e => sameD e d
  | none => false
theorem isL_ok {F : List D → Hd → Res D} {ds : List D} {d : D} (q : isL F ds d = true) (h : Hd) : loc F ds h = .ok d h := by
  unfold isL at q
  split at q
  · rename_i e ev
    rw [sameD_eq q] at ev
    exact valL_ok ev h
  · cases q
end Mi

set_option Elab.async false
set_option linter.all false
set_option maxRecDepth 100000
set_option maxHeartbeats 1000000
namespace Mi
open PySem PySem.Spec PyProof.Rows L2
/-! ### texts of single signs -/
abbrev sg (c : Nat) : Str := ⟨#[c]⟩
abbrev tx (l : List Nat) : Str := ⟨l.toArray⟩
theorem fold_cnt (l : List Nat) (c : Nat) (f : Nat → Array Nat × Nat → Array Nat × Nat) (hf : ∀ i p, p.1.size ≤ i → p.2 ≤ i → f i p = if l[i]? = some c then (p.1.push i, i + 1) else p) :
    ∀ n i p, p.1.size ≤ i → p.2 ≤ i → ((List.range' i n).foldl (fun p i => f i p) p).1.size = p.1.size + ((l.drop i).take n).count c
  | 0, i, p, _, _ => by simp
  | n + 1, i, p, h1, h2 => by
    rw [List.range'_succ, List.foldl_cons, hf i p h1 h2]
    cases e : l[i]? with
    | none =>
      have hl : l.length ≤ i := List.getElem?_eq_none_iff.mp e
      rw [if_neg (by simp), fold_cnt l c f hf n (i + 1) p (by omega) (by omega), List.drop_eq_nil_of_le hl, List.drop_eq_nil_of_le (by omega)]
      simp
    | some x =>
      have hd : l.drop i = x :: l.drop (i + 1) := by
        obtain ⟨hl, ex⟩ := List.getElem?_eq_some_iff.mp e
        rw [← ex]
        exact List.drop_eq_getElem_cons hl
      by_cases hx : x = c
      · subst hx
        rw [if_pos rfl, fold_cnt l x f hf n (i + 1) _ (by simp; omega) (by simp), hd, List.take_succ_cons, List.count_cons_self, Array.size_push]
        omega
      · rw [if_neg (by simpa using hx), fold_cnt l c f hf n (i + 1) p (by omega) (by omega), hd, List.take_succ_cons, List.count_cons_of_ne (by simpa using hx)]
theorem forIn_id {β : Type} (C : Nat → β → Bool) (A : Nat → β → β) : ∀ (L : List Nat) (p : β), (forIn (m := Id) L p fun i s => if C i s = true then pure (ForInStep.yield (A i s)) else pure (ForInStep.yield s)) = pure (L.foldl (fun s i => if C i s = true then A i s else s) p)
  | [], p => rfl
  | i :: L, p => by
    rw [List.forIn_cons, List.foldl_cons]
    by_cases q : C i p = true
    · rw [if_pos q, if_pos q, pure_bind]
      exact forIn_id C A L _
    · rw [if_neg q, if_neg q, pure_bind]
      exact forIn_id C A L _
theorem count_sg (l : List Nat) (c : Nat) : Txt.count (tx l) (sg c) = ((l.count c : Nat) : Int) := by
  unfold Txt.count Builtin.Str.occurrences
  congr 1
  have hlen : (tx l).length = l.length := by show l.toArray.size = _; simp
  have hs : (sg c).length = 1 := rfl
  rw [hlen, hs]
  simp only [Std.Legacy.Range.forIn_eq_forIn_range', Std.Legacy.Range.size, Nat.sub_zero, Nat.add_sub_cancel, Nat.div_one]
  have key := fold_cnt l c (fun i p => if (decide (p.1.size < l.length + 1) && decide (p.2 ≤ i) && decide (i + 1 ≤ l.length) && Builtin.Str.subAt (tx l) (sg c) i) = true then (p.1.push i, i + 1) else p) (fun i p h1 h2 => by
    by_cases hi : i < l.length
    · have es : Builtin.Str.subAt (tx l) (sg c) i = decide (l[i]? = some c) := by
        unfold Builtin.Str.subAt
        rw [List.getElem?_eq_getElem hi, Bool.eq_iff_iff]
        simp only [hs, beq_iff_eq, decide_eq_true_eq, Option.some.injEq]
        constructor
        · intro q
          have := congrArg (fun a : Array Nat => a[0]?) q
          simpa [hi] using this
        · intro q
          apply Array.ext'
          simp [List.extract_eq_take_drop, List.drop_eq_getElem_cons hi, q]
      rw [es, decide_eq_true (show p.1.size < l.length + 1 by omega), decide_eq_true h2, decide_eq_true (show i + 1 ≤ l.length by omega)]
      simp
    · rw [decide_eq_false (show ¬ i + 1 ≤ l.length by omega), List.getElem?_eq_none_iff.mpr (by omega)]
      simp) (l.length + 1) 0 (#[], 0) (by simp) (by simp)
  simp only [List.drop_zero, Array.size_empty, Nat.zero_add] at key
  rw [List.take_of_length_le (by omega)] at key
  rw [← key]
  have fi := forIn_id (fun i (p : Array Nat × Nat) => decide (p.1.size < l.length + 1) && decide (p.2 ≤ i) && decide (i + 1 ≤ l.length) && Builtin.Str.subAt (tx l) (sg c) i) (fun i p => (p.1.push i, i + 1)) (List.range' 0 (l.length + 1)) (#[], 0)
  show (Id.run ((forIn (m := Id) (List.range' 0 (l.length + 1)) ((#[], 0) : Array Nat × Nat) _) >>= fun s => pure s.1.toList)).length = _
  rw [show (fun i (s : Array Nat × Nat) => (if (decide (s.1.size < l.length + 1) && decide (s.2 ≤ i) && decide (i + 1 ≤ l.length) && Builtin.Str.subAt (tx l) (sg c) i) = true then (pure (ForInStep.yield (s.1.push i, i + 1)) : Id (ForInStep (Array Nat × Nat))) else pure (ForInStep.yield (s.1, s.2)))) = fun i s => if (decide (s.1.size < l.length + 1) && decide (s.2 ≤ i) && decide (i + 1 ≤ l.length) && Builtin.Str.subAt (tx l) (sg c) i) = true then pure (ForInStep.yield (s.1.push i, i + 1)) else pure (ForInStep.yield s) from rfl, fi]
  rfl
/-! ### join of single signs -/
theorem glue_sg : ∀ (l : List Nat) (a : Array Nat), (l.map sg).foldl (fun acc p => acc ++ (("" : Str)).cps ++ p.cps) a = a ++ l.toArray
  | [], a => by simp
  | c :: l, a => by
    rw [List.map_cons, List.foldl_cons, glue_sg l]
    have e : (("" : Str)).cps = #[] := by decide +kernel
    rw [e]
    apply Array.ext'
    simp
theorem join_sg : ∀ l : List Nat, Txt.join "" (l.map sg) = tx l
  | [] => by
    show Builtin.Str.glued "" [] = _
    rfl
  | c :: l => by
    show (⟨((l.map sg)).foldl (fun acc p => acc ++ (("" : Str)).cps ++ p.cps) #[c]⟩ : Str) = _
    rw [glue_sg]
    simp
theorem strs_sg : ∀ l : List Nat, strsD (l.map fun c => D.str (sg c)) = some (l.map sg)
  | [] => rfl
  | c :: l => by
    rw [List.map_cons, List.map_cons]
    unfold strsD
    rw [strs_sg l]
theorem lens_sg (l : List Nat) : ((l.map sg).map (·.length)).sum + (l.map sg).length * (("" : Str)).length = l.length := by
  have e : (("" : Str)).length = 0 := by decide +kernel
  rw [e, Nat.mul_zero, Nat.add_zero]
  induction l with
  | nil => rfl
  | cons c l ih =>
    rw [List.map_cons, List.map_cons, List.sum_cons, ih, List.length_cons]
    show 1 + _ = _
    omega
theorem mJoin_ok {l : List Nat} {r : Nat} {h : Hd} (q : h[r]? = some (.lst (l.map fun c => D.str (sg c)))) (hl : l.length ≤ 16777216) : mJoin (.str "") [.ref r] h = .ok (.str (tx l)) h := by
  unfold mJoin
  dsimp only
  have e : seqD (.ref r) h = some (l.map fun c => D.str (sg c)) := by
    show (match h[r]? with
      | some (.lst xs) => some xs
      | some (.fro xs) => some xs
      | _ => none) = _
    rw [q]
  rw [e]
  dsimp only
  rw [strs_sg]
  dsimp only
  rw [if_pos (by rw [lens_sg]; exact hl), join_sg]
theorem tx_inj {l m : List Nat} : tx l = tx m ↔ l = m := by
  constructor
  · intro h
    have := congrArg (fun s : Str => s.cps.toList) h
    simpa using this
  · intro h; rw [h]
end Mi

set_option Elab.async false
set_option linter.all false
set_option maxRecDepth 100000
set_option maxHeartbeats 1000000
namespace Mi
open PySem PySem.Spec PyProof.Rows L2
/-! ### more steps -/
section
variable {env : En} {h h1 h2 h3 : Hd}
theorem turn_yes' {i : Nat} {el : Fe} {d y : D} (hi : i < env.length) (e : el (env.set i (some d)) h = .ok y h1) : turnC (gSet i) tYesD el env d h = .ok [y] h1 := by
  unfold turnC gSet
  rw [if_pos hi]
  show (match el (env.set i (some d)) h with
    | .ok y h3 => Res.ok [y] h3
    | _ => .no) = _
  rw [e]
theorem mul_sm {i j : Int} (hi : i.natAbs < 18446744073709551616) : gMul (.int i) (.int j) h = .ok (.int (i * j)) h := by
  unfold gMul
  dsimp only
  rw [if_pos (by unfold mulOk; rw [decide_eq_true hi]; rfl)]
theorem mulN {fa fb : Fe} {i j : Nat} (ea : fa env h = .ok (.int i) h1) (eb : fb env h1 = .ok (.int j) h2) (hi : i < 1000000) : eOp gMul fa fb env h = .ok (.int ((i * j : Nat) : Int)) h2 :=
  (op_ok ea eb).trans (by rw [mul_sm (by omega)]; rfl)
theorem addN {fa fb : Fe} {i j : Nat} (ea : fa env h = .ok (.int i) h1) (eb : fb env h1 = .ok (.int j) h2) : eOp gAdd fa fb env h = .ok (.int ((i + j : Nat) : Int)) h2 := (op_ok ea eb).trans rfl
theorem divN {fa fb : Fe} {i j : Nat} (ea : fa env h = .ok (.int i) h1) (eb : fb env h1 = .ok (.int j) h2) (h0 : 0 < j) (hj : j < 1000000) : eOp gFdv fa fb env h = .ok (.int ((i / j : Nat) : Int)) h2 := by
  refine (op_ok ea eb).trans ?_
  unfold gFdv
  dsimp only
  rw [if_pos (by rw [decide_eq_true (show (j : Int) ≠ 0 by omega), decide_eq_true (show (j : Int).natAbs < 1073741824 by omega)]; rfl)]
  rw [Int.fdiv_eq_ediv_of_nonneg _ (by omega)]
  rfl
theorem modN {fa fb : Fe} {i j : Nat} (ea : fa env h = .ok (.int i) h1) (eb : fb env h1 = .ok (.int j) h2) (h0 : 0 < j) : eOp gMod fa fb env h = .ok (.int ((i % j : Nat) : Int)) h2 := by
  refine (op_ok ea eb).trans ?_
  unfold gMod
  dsimp only
  rw [if_pos (by rw [decide_eq_true (show (j : Int) ≠ 0 by omega)])]
  rw [Int.fmod_eq_emod_of_nonneg _ (by omega)]
  rfl
theorem eqI {fa fb : Fe} {i j : Int} (ea : fa env h = .ok (.int i) h1) (eb : fb env h1 = .ok (.int j) h2) : eOp gEq fa fb env h = .ok (.bl (decide (i = j))) h2 := (op_ok ea eb).trans rfl
theorem eqS {fa fb : Fe} {i j : Str} (ea : fa env h = .ok (.str i) h1) (eb : fb env h1 = .ok (.str j) h2) : eOp gEq fa fb env h = .ok (.bl (decide (i = j))) h2 := (op_ok ea eb).trans rfl
theorem neS {fa fb : Fe} {i j : Str} (ea : fa env h = .ok (.str i) h1) (eb : fb env h1 = .ok (.str j) h2) : eOp gNe fa fb env h = .ok (.bl (!decide (i = j))) h2 := (op_ok ea eb).trans rfl
theorem if_ok' {t : Ft} {fa fb : Fe} {b : Bool} {x y : D} (et : t env h = .ok b h1) (ea : fa env h1 = .ok x h2) (eb : fb env h1 = .ok y h2) : eIf t fa fb env h = .ok (if b = true then x else y) h2 := by
  show (t env h).bind _ = _
  rw [et]
  show (if b = true then fa env h1 else fb env h1) = _
  by_cases q : b = true
  · rw [if_pos q, if_pos q, ea]
  · rw [if_neg q, if_neg q, eb]
theorem and_ok {fa fb : Fe} {b c : Bool} (ea : fa env h = .ok (.bl b) h1) (eb : b = true → fb env h1 = .ok (.bl c) h1) : eAnd fa fb env h = .ok (.bl (b && c)) h1 := by
  show (fa env h).bind _ = _
  rw [ea]
  cases b with
  | true => exact eb rfl
  | false => rfl
theorem meth_str {g : Gm} {fo : Fe} {fa : Fa} {s : Str} {ds : List D} {r : Res D} (eo : fo env h = .ok (.str s) h1) (ea : fa env h1 = .ok ds h2) (eg : g (.str s) ds h2 = r) : eMeth "str" g fo fa env h = r := by
  show (fo env h).bind _ = _
  rw [eo]
  show (if recvOk "str" (.str s) h1 = true then (fa env h1).bind fun ds h2 => g (.str s) ds h2 else .no) = _
  rw [if_pos (by rfl), ea]
  exact eg
theorem par2_ok {i j : Nat} {fa : Fa} {x y : D} (e : fa env h = .ok [x, y] h1) (hi : i < env.length := by simp) (hj : j < env.length := by simp) : sPar2 i j fa env h = .nx ((env.set i (some x)).set j (some y)) h1 := by
  unfold sPar2
  rw [e]
  dsimp only
  rw [if_pos (by rw [decide_eq_true hi, decide_eq_true hj]; rfl)]
theorem ltI {fa fb : Fe} {i j : Int} (ea : fa env h = .ok (.int i) h1) (eb : fb env h1 = .ok (.int j) h2) : eOp gLt fa fb env h = .ok (.bl (decide (i < j))) h2 := (op_ok ea eb).trans rfl
end
theorem range_items {n i : Nat} (hi : i < n) : ((List.range n).map fun k : Nat => D.int (k : Int)).getD i .non = .int (0 + (i : Nat) * 1) := by
  rw [List.getD_eq_getElem?_getD, List.getElem?_map, List.getElem?_range hi]
  simp
/-- a comprehension over range(n), element by element, that leaves the heap -/
theorem lc_rng {n : Nat} {v : Nat} {el : Fe} {env : En} {h : Hd} (y : Nat → D) (hv : v < env.length) (hn : n ≤ 16777216) (e : ∀ i : Nat, i < n → ∀ h1, el (env.set v (some (.int i))) h1 = .ok (y i) h1) :
    ∃ h', lcL (rngS 0 n 1) (gSet v) tYesD el env h.length most 0 (h ++ [.lst []]) = .ok (.ref h.length) h' ∧ Kp [] h h' ∧ h'[h.length]? = some (.lst ((List.range n).map y)) := by
  obtain ⟨h', e', kp, q⟩ := lc_src (src := rngS 0 n 1) (tg := gSet v) (tst := tYesD) (el := el) (env := env) (h := h) (xs := (List.range n).map fun k : Nat => D.int (k : Int)) (fun d => match d with
      | .int i => [y i.toNat]
      | _ => []) (fun i h1 hi _ => by
    have hi : i < n := by simpa using hi
    rw [range_items hi]
    exact rng_item hi) (fun h1 _ => by
    rw [List.length_map, List.length_range]
    exact rng_stop) (fun d hd h1 _ => by
    obtain ⟨i, hi, rfl⟩ := List.mem_map.mp hd
    have hi : i < n := by simpa using hi
    refine ⟨h1, ?_, Kp.refl⟩
    have := turn_yes' (h := h1) (h1 := h1) (d := .int (i : Int)) (y := y i) hv (e i hi h1)
    simpa using this) (by simpa using hn)
  refine ⟨h', e', kp, ?_⟩
  rw [q, List.flatMap_map]
  congr 2
  induction (List.range n) with
  | nil => rfl
  | cons a l ih => rw [List.flatMap_cons, List.map_cons, ih]; rfl
end Mi

set_option Elab.async false
set_option linter.all false
set_option maxRecDepth 100000
set_option maxHeartbeats 1000000
namespace Mi
open PySem PySem.Spec PyProof.Rows L2
/-! ### while -/
theorem while_go {c : Ft} {body : Fs} (μ : En → Hd → Nat) (J : En → Hd → Prop)
    (step : ∀ env1 h1, J env1 h1 → (∃ h2, c env1 h1 = .ok false h2) ∨ (∃ h2 env3 h3, c env1 h1 = .ok true h2 ∧ body env1 h2 = .nx env3 h3 ∧ J env3 h3 ∧ μ env3 h3 < μ env1 h1)) :
    ∀ n env h, J env h → μ env h < n → ∃ env' h1 h', whileL c body n env h = .nx env' h' ∧ J env' h1 ∧ c env' h1 = .ok false h'
  | 0, _, _, _, hn => absurd hn (Nat.not_lt_zero _)
  | n + 1, env, h, j, hn => by
    rcases step env h j with ⟨h2, e⟩ | ⟨h2, env3, h3, e, e2, j3, lt⟩
    · refine ⟨env, h, h2, ?_, j, e⟩
      unfold whileL
      rw [e]
    · obtain ⟨env', h1, h', w, j', e'⟩ := while_go μ J step n env3 h3 j3 (by omega)
      refine ⟨env', h1, h', ?_, j', e'⟩
      unfold whileL
      rw [e]
      dsimp only
      rw [e2]
      exact w
theorem while_inv {c : Ft} {body : Fs} {env : En} {h : Hd} (μ : En → Hd → Nat) (J : En → Hd → Prop) (j0 : J env h)
    (step : ∀ env1 h1, J env1 h1 → (∃ h2, c env1 h1 = .ok false h2) ∨ (∃ h2 env3 h3, c env1 h1 = .ok true h2 ∧ body env1 h2 = .nx env3 h3 ∧ J env3 h3 ∧ μ env3 h3 < μ env1 h1)) (hb : μ env h < 1000000000) :
    ∃ env' h1 h', sWhile c body env h = .nx env' h' ∧ J env' h1 ∧ c env' h1 = .ok false h' :=
  while_go μ J step most env h j0 (by rw [most_eq]; omega)
/-! ### two representations compared -/
theorem mapM_same {n : Nat} {h h' : Hd} (ih : ∀ {x y : D}, sameD x y = true → toP n h x = toP n h' y) : ∀ {xs ys : List D}, samesD xs ys = true → xs.mapM (toP n h) = ys.mapM (toP n h')
  | [], ys, q => by
    have := samesD_eq q
    subst this
    rfl
  | x :: xs, ys, q => by
    cases ys with
    | nil => unfold samesD at q; cases q
    | cons y ys =>
      unfold samesD at q
      obtain ⟨q1, q2⟩ := He.ba q
      rw [List.mapM_cons, List.mapM_cons, ih q1, mapM_same ih q2]
theorem toP_same : ∀ {n : Nat} {h h' : Hd} {x y : D}, sameD x y = true → toP n h x = toP n h' y
  | 0, _, _, _, _, _ => rfl
  | n + 1, h, h', x, y, q => by
    have e := sameD_eq q
    subst e
    cases x with
    | tup xs =>
      unfold sameD at q
      unfold toP
      rw [mapM_same (fun q => toP_same q) q]
    | ref k => unfold sameD at q; cases q
    | _ => rfl
mutual
def nodS : PyData → Nat
  | .list xs => nodsS xs + 1
  | .tuple xs => nodsS xs + 1
  | .str x => bif x.cps.toList.all (fun c => Nat.blt c 4294967296) then x.cps.toList.length + 1 else 16777216
  | .dict _ => 16777216
  | .none => 1
  | .bool _ => 1
  | .int _ => 1
def nodsS : List PyData → Nat
  | [] => 0
  | d :: r => nodS d + nodsS r
end
mutual
theorem shown_leS : ∀ d : PyData, d.showable = true → nodS d < 16777216 → d.shown.length + 2 ≤ 1925 * nodS d
  | .none, _, _ => by unfold PyData.shown nodS; decide
  | .bool b, _, _ => by unfold PyData.shown nodS; cases b <;> decide
  | .int i, h, _ => by
    have := int_text_len_1921 (i := i) (by simpa [PyData.showable] using h)
    unfold PyData.shown nodS
    omega
  | .str x, _, h => by
    unfold nodS at h ⊢
    cases q : x.cps.toList.all (fun c => Nat.blt c 4294967296) with
    | false => rw [q] at h; exact absurd h (Nat.lt_irrefl 16777216)
    | true =>
      have := StrLaws.reprText_len x (fun c hc => Nat.le_of_ble_eq_true (List.all_eq_true.mp q c hc))
      have e : x.length = x.cps.toList.length := by rw [Array.length_toList]; rfl
      unfold PyData.shown
      rw [e] at this
      show _ ≤ 1925 * (x.cps.toList.length + 1)
      omega
  | .dict x, _, h => by unfold nodS at h; omega
  | .list xs, h, hn => by
    unfold nodS at hn ⊢
    unfold PyData.shown
    have := shownAll_leS xs (by simpa [PyData.showable] using h) (by omega)
    have := lt_len (PyData.shownAll xs)
    omega
  | .tuple xs, h, hn => by
    unfold nodS at hn ⊢
    unfold PyData.shown
    have := shownAll_leS xs (by simpa [PyData.showable] using h) (by omega)
    have := tt_len (PyData.shownAll xs)
    omega
theorem shownAll_leS : ∀ ds : List PyData, PyData.showableAll ds = true → nodsS ds < 16777216 → ((PyData.shownAll ds).map (·.length)).sum + (PyData.shownAll ds).length * 2 ≤ 1925 * nodsS ds
  | [], _, _ => by unfold PyData.shownAll nodsS; simp
  | d :: r, h, hn => by
    rw [PyData.showableAll, Bool.and_eq_true] at h
    unfold nodsS at hn ⊢
    unfold PyData.shownAll
    have h1 := shown_leS d h.1 (by omega)
    have h2 := shownAll_leS r h.2 (by omega)
    rw [List.map_cons, List.sum_cons, List.length_cons]
    omega
end
theorem repOk_ofS {d : PyData} (h : d.showable = true) (h2 : d.hasDict = false) (h3 : d.depth ≤ 60) (h4 : nodS d ≤ 8000) : repOk d = true := by
  have := shown_leS d h (by omega)
  unfold repOk
  rw [h, h2, decide_eq_true h3, decide_eq_true (show d.shown.length ≤ 16777216 by omega)]
  rfl
def okR (x : D) (h : Hd) : Bool := match toP maxP h x with
  | some d => d.showable && (!d.hasDict && (Nat.ble d.depth 60 && Nat.ble (nodS d) 8000))
  | none => false
theorem okR_ok {x : D} {h : Hd} (q : okR x h = true) : ∃ d, toP maxP h x = some d ∧ repOk d = true := by
  unfold okR at q
  split at q
  · rename_i d e
    obtain ⟨q1, q2⟩ := He.ba q
    obtain ⟨q2, q3⟩ := He.ba q2
    obtain ⟨q3, q4⟩ := He.ba q3
    exact ⟨d, e, repOk_ofS q1 (by simpa using q2) (Nat.le_of_ble_eq_true q3) (Nat.le_of_ble_eq_true q4)⟩
  · cases q
def eRR (g : D → D → Hd → Res D) (v : Bool) (a b : Fe) : Fe := fun env h => match a env h with
  | .ok x h1 => (match b env h1 with
    | .ok y h2 => bif sameD x y && okR x h1 then .ok (.bl v) h2 else eOp g (eCall gRepr (aCons a aNil)) (eCall gRepr (aCons b aNil)) env h
    | _ => eOp g (eCall gRepr (aCons a aNil)) (eCall gRepr (aCons b aNil)) env h)
  | _ => eOp g (eCall gRepr (aCons a aNil)) (eCall gRepr (aCons b aNil)) env h
theorem eRR_eq {g : D → D → Hd → Res D} {v : Bool} (hg : ∀ s h, g (.str s) (.str s) h = .ok (.bl v) h) (a b : Fe) : eOp g (eCall gRepr (aCons a aNil)) (eCall gRepr (aCons b aNil)) = eRR g v a b := by
  funext env h
  unfold eRR
  split
  · rename_i x h1 e1
    split
    · rename_i y h2 e2
      cases q : sameD x y && okR x h1 with
      | false => rfl
      | true =>
        obtain ⟨q1, q2⟩ := He.ba q
        obtain ⟨d, ed, ok⟩ := okR_ok q2
        have ed2 : toP maxP h2 y = some d := (toP_same (h := h1) (h' := h2) q1).symm.trans ed
        exact (op_ok ((call_ok (cons_ok e1 rfl)).trans (repr_ok ed ok)) ((call_ok (cons_ok e2 rfl)).trans (repr_ok ed2 ok))).trans (hg _ _)
    · rfl
  · rfl
abbrev eNeR := eRR gNe false
abbrev eEqR := eRR gEq true
theorem eNeR_eq (a b : Fe) : eOp gNe (eCall gRepr (aCons a aNil)) (eCall gRepr (aCons b aNil)) = eNeR a b := eRR_eq (fun s h => by unfold gNe eqB; dsimp only; rw [decide_eq_true rfl]; rfl) a b
theorem eEqR_eq (a b : Fe) : eOp gEq (eCall gRepr (aCons a aNil)) (eCall gRepr (aCons b aNil)) = eEqR a b := eRR_eq (fun s h => by unfold gEq eqB; dsimp only; rw [decide_eq_true rfl]; rfl) a b
end Mi

set_option Elab.async false
set_option linter.all false
set_option maxRecDepth 100000
set_option maxHeartbeats 1000000
namespace Mi
open PySem PySem.Spec PyProof.Rows L2
/-! ### cuts of texts, quick to reckon -/
def slF (z : Str) (lo hi : Option Int) : Str := match lo, hi with
  | none, some (.ofNat n) => bif Nat.ble n z.cps.toList.length then ⟨(z.cps.toList.take n).toArray⟩ else Txt.slice z lo hi
  | some (.ofNat n), none => bif Nat.ble n z.cps.toList.length then ⟨(z.cps.toList.drop n).toArray⟩ else Txt.slice z lo hi
  | _, _ => Txt.slice z lo hi
theorem len_list (z : Str) : z.length = z.cps.toList.length := by rw [Array.length_toList]; rfl
theorem slF_eq (z : Str) (lo hi : Option Int) : Txt.slice z lo hi = slF z lo hi := by
  unfold slF
  split
  · rename_i n
    cases q : Nat.ble n z.cps.toList.length with
    | false => rfl
    | true =>
      have hn := Nat.le_of_ble_eq_true q
      have := eq_of_beq (slice_closes_to (x := z) (j := (n : Nat)) ⟨by omega, by omega⟩)
      show Txt.slice z none (some ((n : Nat) : Int)) = _
      rw [this]
      simp
  · rename_i n
    cases q : Nat.ble n z.cps.toList.length with
    | false => rfl
    | true =>
      have hn := Nat.le_of_ble_eq_true q
      have := eq_of_beq (slice_closes_fromL (x := z) (i := (n : Nat)) (b := (z.length : Nat)) (by omega) (by rw [len_list]; omega) rfl)
      show Txt.slice z (some ((n : Nat) : Int)) none = _
      rw [this]
      have e : (((z.length : Nat) : Int) - (n : Nat)).toNat = (z.cps.toList.drop n).length := by rw [List.length_drop, ← len_list]; omega
      rw [e, show ((n : Nat) : Int).toNat = n from rfl, List.take_length]
      rfl
  · rfl
def gSlF : D → Option Int → Option Int → Hd → Res D := fun x lo hi h => match x with
  | .str z => if z.length ≤ 16777216 then .ok (.str (slF z lo hi)) h else .no
  | x => gSl x lo hi h
theorem gSlF_eq : gSl = gSlF := by
  funext x lo hi h
  unfold gSlF
  split
  · rename_i z
    unfold gSl
    dsimp only
    rw [slF_eq]
  · rfl
def eSlF (fe : Fe) (fl fu : Fo) : Fe := fun env h => (fe env h).bind fun x h1 => (fl env h1).bind fun l h2 => (fu env h2).bind fun u h3 => gSlF x l u h3
theorem e_sl : eSl = eSlF := by
  funext fe fl fu env h
  unfold eSl eSlF
  rw [gSlF_eq]
end Mi

set_option Elab.async false
set_option linter.all false
set_option maxRecDepth 100000
set_option maxHeartbeats 1000000
namespace Mi
open PySem PySem.Spec PyProof.Rows L2
/-! ### clauses that catch -/
theorem tryAll_ex {i : Nat} {body : Fs} {cl : List Cla} {env env1 : En} {h h1 : Hd} {e : Exn} {f : Nat → Fs} (eb : body env h = .ex e env1 h1) (pk : pickC e.c cl = some (some f)) : sTryAll i body cl env h = sAft i (f (fresh env1 h1 e) (env1.set i (some (.exc (fresh env1 h1 e) e.c e.f e.v))) h1) := by
  unfold sTryAll
  rw [eb]
  dsimp only
  rw [pk]
theorem tryAll_nx {i : Nat} {body : Fs} {cl : List Cla} {env env1 : En} {h h1 : Hd} (eb : body env h = .nx env1 h1) : sTryAll i body cl env h = .nx env1 h1 := by
  unfold sTryAll
  rw [eb]
theorem fld_ok {n : Nat} {f c : Str} {fe : Fe} {env : En} {h h1 : Hd} {v : D} (e : fe env h = .ok (.exc n c f v) h1) : eFld n f [c] fe env h = .ok v h1 := by
  unfold eFld
  rw [e]
  simp
theorem asg_ex {fe : Fe} {i : Nat} {env : En} {h h' : Hd} {x : Exn} (e : fe env h = .ex x h') : sAsg fe (gSet i) env h = .ex x env h' := by
  unfold sAsg
  show (match fe env h with
    | .ok d h1 => _
    | .ex e h1 => SRes.ex e env h1
    | .no => .no) = _
  rw [e]
theorem cons_ex2 {f g : Fe} {r : Fa} {env : En} {h h1 h2 : Hd} {x : D} {z : Exn} (e : f env h = .ok x h1) (e2 : g env h1 = .ex z h2) : eTup (aCons f (aCons g r)) env h = .ex z h2 := by
  show ((f env h).bind fun x h1 => ((g env h1).bind fun y h2 => _).bind _).bind _ = _
  rw [e]
  show (((g env h1).bind fun y h2 => _).bind _).bind _ = _
  rw [e2]
  rfl
/-- the kernel's look at a local call that ends with an exception -/
def isX (F : List D → Hd → Res D) (ds : List D) (e : Exn) : Bool := purs ds && (match F ds [] with
  | .ex x _ => decide (x.c = e.c) && (decide (x.f = e.f) && (sameD x.v e.v && pur e.v))
  | _ => false)
theorem isX_ok {F : List D → Hd → Res D} {ds : List D} {e : Exn} (q : isX F ds e = true) (h : Hd) : loc F ds h = .ex e h := by
  unfold isX at q
  obtain ⟨q1, q2⟩ := He.ba q
  split at q2
  · rename_i x h2 ev
    obtain ⟨a1, a2⟩ := He.ba q2
    obtain ⟨a2, a3⟩ := He.ba a2
    obtain ⟨a3, a4⟩ := He.ba a3
    have : x = e := by
      cases x; cases e
      simp only [Exn.mk.injEq]
      exact ⟨of_decide_eq_true a1, of_decide_eq_true a2, sameD_eq a3⟩
    subst this
    exact loc_ex ev q1 a4
  · cases q2
end Mi

set_option Elab.async false
set_option linter.all false
set_option maxRecDepth 100000
set_option maxHeartbeats 1000000
namespace Mi
open PySem PySem.Spec PyProof.Rows L2
/-! ### for k, cell in enumerate(script[:m] + [sum(script)]) -/
theorem cut_take (ns : List Int) (m : Nat) : cutD (ns.map D.int) none (some (m : Nat)) = (ns.take m).map D.int := by
  unfold cutD HT.sIx
  dsimp only
  rw [if_neg (by omega), List.length_map, List.drop_zero, Nat.sub_zero, show ((m : Nat) : Int).toNat = m from rfl, ← List.map_take]
  by_cases hl : m ≤ ns.length
  · rw [Nat.min_eq_left hl]
  · rw [Nat.min_eq_right (by omega), List.take_of_length_le (by omega), List.take_of_length_le (by omega)]
theorem head_src {ns : List Int} {m : Nat} {M : Int} {env : En} (hM : M = (m : Nat)) (hm : m ≤ 100) (v0 : ∀ h, eVar 0 env h = .ok (.ref 0) h) :
    ∃ h3, iEnm (eOp gAdd (eSl (eVar 0) oNone (oSome (eC (.int M)))) (eLst (aCons (eCall gSum (aCons (eVar 0) aNil)) aNil))) env [.fro (ns.map .int)] = .ok (enmS (liveS 3)) h3 ∧ h3[3]? = some (.lst ((ns.take m ++ [ns.sum]).map .int)) ∧ h3.length = 4 := by
  subst hM
  have c1 : eSl (eVar 0) oNone (oSome (eC (.int (m : Nat)))) env [.fro (ns.map .int)] = .ok (.ref 1) [.fro (ns.map .int), .lst ((ns.take m).map .int)] := by
    show (eVar 0 env _).bind _ = _
    rw [v0]
    show Res.ok (D.ref 1) ([Ob.fro (ns.map .int)] ++ [Ob.lst (cutD (ns.map D.int) none (some (m : Nat)))]) = _
    rw [cut_take]
    rfl
  have c2 : eLst (aCons (eCall gSum (aCons (eVar 0) aNil)) aNil) env [.fro (ns.map .int), .lst ((ns.take m).map .int)] = .ok (.ref 2) [.fro (ns.map .int), .lst ((ns.take m).map .int), .lst [.int ns.sum]] := by
    have s1 : gSum [.ref 0] [.fro (ns.map .int), .lst ((ns.take m).map .int)] = .ok (.int ns.sum) [.fro (ns.map .int), .lst ((ns.take m).map .int)] := by
      show (match intsD (ns.map D.int) with
        | some ns => Res.ok (D.int ns.sum) _
        | none => .no) = _
      rw [ints_map]
    exact (lst_ok (cons_ok ((call_ok (ds := [.ref 0]) (cons_ok (v0 _) rfl)).trans s1) rfl) (by simp)).trans rfl
  have c3 : eOp gAdd (eSl (eVar 0) oNone (oSome (eC (.int (m : Nat))))) (eLst (aCons (eCall gSum (aCons (eVar 0) aNil)) aNil)) env [.fro (ns.map .int)] = .ok (.ref 3) [.fro (ns.map .int), .lst ((ns.take m).map .int), .lst [.int ns.sum], .lst ((ns.take m).map .int ++ [.int ns.sum])] :=
    (op_ok c1 c2).trans (cat_lst (a := 1) (b := 2) (xs := (ns.take m).map .int) (ys := [.int ns.sum]) rfl rfl (by rw [List.length_map, List.length_take]; show _ + 1 ≤ 1000; omega))
  refine ⟨[.fro (ns.map .int), .lst ((ns.take m).map .int), .lst [.int ns.sum], .lst ((ns.take m).map .int ++ [.int ns.sum])], ?_, ?_, rfl⟩
  · show (eOp gAdd _ _ _ _).bind _ = _
    rw [c3]
    rfl
  · rw [List.map_append]
    rfl
theorem head_loop {ns : List Int} {m : Nat} {M : Int} {env : En} {tg : Fg} {body : Fs} (J : En → Prop) (hM : M = (m : Nat)) (hm : m ≤ 100) (v0 : ∀ h, eVar 0 env h = .ok (.ref 0) h) (j0 : J env)
    (turn : ∀ (i : Nat) (cell : Int) env1 h1, i ≤ m → J env1 → ∃ env2 h2, stepS tg body (.tup [.int (i : Nat), .int cell]) env1 h1 = .nx env2 h2 ∧ J env2 ∧ Kp [] h1 h2) :
    ∃ env' h', sFor (iEnm (eOp gAdd (eSl (eVar 0) oNone (oSome (eC (.int M)))) (eLst (aCons (eCall gSum (aCons (eVar 0) aNil)) aNil)))) tg body env [.fro (ns.map .int)] = .nx env' h' ∧ J env' := by
  obtain ⟨h3, c4, e3, _⟩ := head_src (ns := ns) hM hm v0
  generalize hcs : ns.take m ++ [ns.sum] = cs at e3
  have hl : cs.length ≤ m + 1 := by
    rw [← hcs, List.length_append, List.length_take]
    show _ + 1 ≤ m + 1
    omega
  have key := for_inv (src := enmS (liveS 3)) (tg := tg) (body := body) (env := env) (h := h3) cs.length (fun i => .tup [.int (i : Nat), .int (cs.getD i 0)])
    (fun i env1 h1 => J env1 ∧ h1[3]? = some (.lst (cs.map .int))) ⟨j0, e3⟩ ?_ ?_ (by rw [most_eq]; omega)
  · obtain ⟨env', h', e, j, _⟩ := key
    exact ⟨env', h', (sFor_ok c4).trans e, j⟩
  · rintro i env1 h1 hi ⟨j, q⟩
    refine ⟨?_, ?_⟩
    · refine enm_item ?_
      rw [live_item (.inl q) (by simpa using hi), List.getD_eq_getElem?_getD, List.getElem?_map, List.getElem?_eq_getElem hi, List.getD_eq_getElem?_getD, List.getElem?_eq_getElem hi]
      rfl
    · obtain ⟨env2, h2, e2, j2, k2⟩ := turn i (cs.getD i 0) env1 h1 (by omega) j
      exact ⟨env2, h2, e2, j2, k2.at_ _ _ (by simp) q⟩
  · rintro env1 h1 ⟨_, q⟩
    refine enm_stop ?_
    have := live_stop (h := h1) (.inl q)
    rwa [List.length_map] at this
theorem Kp.new {s : Nat} {h0 h1 h2 : Hd} (a : Kp [] h0 h1) (b : Kp [s] h1 h2) (hs : h0.length ≤ s) : Kp [] h0 h2 := ⟨Nat.le_trans a.len b.len, fun i o hi e => by
  have hi2 : i < h0.length := (List.getElem?_eq_some_iff.mp e).1
  exact b.at_ i o (by simp; omega) (a.at_ i o (by simp) e)⟩
theorem not_ok {t : Ft} {env : En} {h h1 : Hd} {b : Bool} (e : t env h = .ok b h1) : tNotD t env h = .ok (!b) h1 := by
  show (t env h).bind _ = _
  rw [e]
  rfl
theorem andD_no {a b : Ft} {env : En} {h h1 : Hd} (e : a env h = .ok false h1) : tAndD a b env h = .ok false h1 := by
  show (a env h).bind _ = _
  rw [e]
  rfl
theorem andD_yes {a b : Ft} {env : En} {h h1 h2 : Hd} {r : Bool} (e : a env h = .ok true h1) (e2 : b env h1 = .ok r h2) : tAndD a b env h = .ok r h2 := by
  show (a env h).bind _ = _
  rw [e]
  exact e2
end Mi

set_option Elab.async false
set_option linter.all false
set_option maxRecDepth 100000
set_option maxHeartbeats 1000000
namespace Mi
open PySem PySem.Spec PyProof.Rows L2
/-! ### code that is not covered: no value, so nothing is to be shown -/
def eDead : Fe := fun _ _ => .no
def sDead : Fs := fun _ _ => .no
def iDead : Fi := fun _ _ => .no
section
variable {X : Cx} {R : Rx} {W : WX} {e tg : Expr} {st : Stmt}
theorem de_dead : DE X R W e eDead := ⟨fun pins s σ H Q I h => by
  obtain ⟨α, env, hp, re, rh, f⟩ := h
  exact (show False from f).elim⟩
theorem ds_dead : DS X R W st sDead := ⟨fun pins s σ H Dn I h => by
  obtain ⟨α, env, hp, re, rh, f⟩ := h
  exact (show False from f).elim⟩
theorem di_dead : DI X R W tg e iDead := ⟨fun pins s σ H Q I h => by
  obtain ⟨α, env, hp, re, rh, f⟩ := h
  exact (show False from f).elim⟩
end
end Mi

set_option Elab.async false
set_option linter.all false
set_option maxRecDepth 100000
set_option maxHeartbeats 2000000
namespace Mi
open PySem PySem.Spec PyProof.Rows L2
/-! ### a lambda with parameters: its object -/
abbrev lmF (qual : Str) (params : Arguments) (body : Expr) (scope : Scope) (cl : List (Str × Addr)) (pm cdv ct dV : Value) : FuncData := { PySem.W.kla_fn "<lambda>" qual params body scope cl pm cdv ct with defaults := dV }
abbrev lmO (qual : Str) (params : Arguments) (body : Expr) (scope : Scope) (clos : List (Str × Addr)) (pm : Value) (c' : Addr) (ctv dV : Value) : Obj :=
  { cls := .type "function", data := .func (lmF qual params body scope clos pm (.ref c') ctv dV) }
section
variable {M : Model} {A : Around} {E : Value → Shared → Prop} {s : Shared} {qual : Str} {params : Arguments} {body : Expr} {scope : Scope} {env : PySem.Env} {c P : Addr} {ps : Array Value} {pos : Pos} {firstLine : Nat} {mg : Str → Option Value}
  {clos : List (Str × Addr)} {dV : Value} {Q : Value → Shared → Prop}
theorem lm_tail (hcl : closureFor scope env = pure clos) (hge0 : env.globals = mainGlobals) (hg : s.heap.Ns mainGlobals mg) (hcode : env.code = .ref c) (C : PySem.W.CodeHd s.heap c P) (hP : s.heap.get? P = some (PySem.W.tabObj ps)) (ht : TriplesOk ps.toList)
    (hnf : codeAmong pos ps.toList = none) (hgP : mainGlobals ≠ P) (hb : s.heap.BuiltinsAt mg P)
    (h : ∀ c' ctv h' tk, Heap.ExtBut P s.heap h' → s.heap.objs.size ≤ c' → c' < h'.objs.size → h'.CodeRec (.ref c') qual → h'.get? P = some (PySem.W.tabObj (ps ++ #[rawInt pos.line, rawInt pos.col, .ref c'])) →
      Q (.ref h'.objs.size) { s with heap := h'.push (lmO qual params body scope clos ((mg "__name__").getD .none) c' ctv dV), toks := tk }) :
    wpAny M A (makeTail "<lambda>" qual params (.expr body) scope env dV .none none pos firstLine) Q E s := by
  obtain ⟨bm, ob, hbm, hne0, _, hneP, hbo, hcls, hdict, hdata⟩ := hb
  unfold makeTail
  rw [hcl, hge0]
  refine wpAny_bind (wpAny_pure ?_)
  cases clos with
  | nil =>
    simp only [List.isEmpty_nil, if_true]
    refine wpAny_bind (wpAny_pure ?_)
    refine wpAny_bind (wpAny_functionCodeX hcode (C.code hP ht) (C.tab hP) hnf fun c' h' tk hx hge hlt _ hrec htb _ => ?_)
    have hg' := hg.extBut hx hgP
    refine wpAny_bind (wpAny_builtinsFor hg' hbm hne0 (hx _ _ hneP hbo) hcls hdict hdata ?_)
    refine wpAny_bind (wpAny_nsGet hg' ?_)
    exact wpAny_bind (wpAny_pure (wpAny_newObj_type (h c' .none h' tk hx hge hlt hrec htb.2) (by size_fits)))
  | cons q r =>
    simp only [List.isEmpty_cons, Bool.false_eq_true, if_false]
    refine wpAny_bind (wpAny_newTextTuple ?_)
    refine wpAny_bind (wpAny_functionCodeX hcode ((C.keeps fun b o e => Heap.get?_push_of_some _ e).code (Heap.get?_push_of_some _ hP) ht) ((C.keeps fun b o e => Heap.get?_push_of_some _ e).tab (Heap.get?_push_of_some _ hP)) hnf fun c' h' tk hx hge hlt _ hrec htb _ => ?_)
    have hg' := (hg.push _).extBut hx hgP
    have hx' : Heap.ExtBut P s.heap h' := fun b o hb' e => hx b o hb' (Heap.get?_push_of_some _ e)
    have hge' : s.heap.objs.size ≤ c' := Nat.le_trans (by rw [Heap.size_push]; omega) hge
    refine wpAny_bind (wpAny_builtinsFor hg' hbm hne0 (hx' _ _ hneP hbo) hcls hdict hdata ?_)
    refine wpAny_bind (wpAny_nsGet hg' ?_)
    exact wpAny_bind (wpAny_pure (wpAny_newObj_type (h c' _ h' tk hx' hge' hlt hrec htb.2) (by size_fits)))
theorem lm_tailHit {cv : Value} (hcl : closureFor scope env = pure clos) (hge0 : env.globals = mainGlobals) (hg : s.heap.Ns mainGlobals mg) (hcode : env.code = .ref c) (C : PySem.W.CodeHd s.heap c P) (hP : s.heap.get? P = some (PySem.W.tabObj ps)) (ht : TriplesOk ps.toList)
    (hf : codeAmong pos ps.toList = some cv) (hb : s.heap.BuiltinsAt mg P)
    (h : ∀ (ctv : Value) (h' : Heap) (tk : Tok), (∀ b o, s.heap.get? b = some o → h'.get? b = some o) → s.heap.objs.size ≤ h'.objs.size →
      Q (.ref h'.objs.size) { s with heap := h'.push { cls := .type "function", data := .func (lmF qual params body scope clos ((mg "__name__").getD .none) cv ctv dV) }, toks := tk }) :
    wpAny M A (makeTail "<lambda>" qual params (.expr body) scope env dV .none none pos firstLine) Q E s := by
  obtain ⟨bm, ob, hbm, hne0, _, hneP, hbo, hcls, hdict, hdata⟩ := hb
  unfold makeTail
  rw [hcl, hge0]
  refine wpAny_bind (wpAny_pure ?_)
  cases clos with
  | nil =>
    simp only [List.isEmpty_nil, if_true]
    refine wpAny_bind (wpAny_pure ?_)
    refine wpAny_bind (wpAny_functionCode_hit hcode (C.code hP ht) hf ?_)
    refine wpAny_bind (wpAny_builtinsFor hg hbm hne0 hbo hcls hdict hdata ?_)
    refine wpAny_bind (wpAny_nsGet hg ?_)
    exact wpAny_bind (wpAny_pure (wpAny_newObj_type (h .none s.heap s.toks (fun _ _ e => e) (Nat.le_refl _)) (by size_fits)))
  | cons q r =>
    simp only [List.isEmpty_cons, Bool.false_eq_true, if_false]
    refine wpAny_bind (wpAny_newTextTuple ?_)
    refine wpAny_bind (wpAny_functionCode_hit hcode ((C.keeps fun b o e => Heap.get?_push_of_some _ e).code (Heap.get?_push_of_some _ hP) ht) hf ?_)
    refine wpAny_bind (wpAny_builtinsFor (hg.push _) hbm hne0 (Heap.get?_push_of_some _ hbo) hcls hdict hdata ?_)
    refine wpAny_bind (wpAny_nsGet (hg.push _) ?_)
    have hsz : ∀ oT : Obj, s.heap.objs.size ≤ (s.heap.push oT).objs.size := fun oT => by rw [Heap.size_push]; omega
    exact wpAny_bind (wpAny_pure (wpAny_newObj_type (h _ _ s.toks (fun b o e => Heap.get?_push_of_some _ e) (hsz _)) (by size_fits)))
end
section
variable {X : Cx} {pins : List (Addr × Obj)} {σ : L2.St} {H : Hp} {s : Shared}
/-- what stands behind the defaults: the function's object is made -/
theorem lm_made {T : List (Addr × Str)} {c P : Addr} {params : Arguments} {body : Expr} {scope : Scope} {pos : Pos} {dV : Value} {E : Value → Shared → Prop} {Q : Value → Shared → Prop} (I : Inv X pins σ H s) (TB : LamX.TabB X.base X.mg c P) (hcode : X.env.code = .ref c)
    (hm : (P, X.env.qual ++ "<lambda>") ∈ T) (hu : ∀ p ∈ T, p.1 = P → p.2 = X.env.qual ++ "<lambda>") (hT : LamX.Tabs T H) (hfree : ∀ y ∈ scope.names, y.2 = .free → ∃ c, X.env.cells.lookup y.1 = some c)
    (h : ∀ (f c' : Addr) (pm ctv : Value) (H1 : Hp) (s' : Shared), Inv X pins σ H1 s' → LamX.ExtN H H1 → LamX.Tabs T H1 → (∀ b o, b ≠ P → s.heap.get? b = some o → s'.heap.get? b = some o) → (∀ b, b ≠ P → b < s.heap.objs.size → H b = none → H1 b = none) →
      s'.heap.get? f = some (lmO (X.env.qual ++ "<lambda>") params body scope (cloFrom X.env.cells scope.names []) pm c' ctv dV) → H1 f = none → f ∉ frs X.stack → H1 c' = some (LamX.CodeO c' (X.env.qual ++ "<lambda>")) → Q (.ref f) s') :
    wpAny (model X.prog X.w) X.A (makeTail "<lambda>" (X.env.qual ++ "<lambda>") params (.expr body) scope X.env dV .none none pos pos.line) Q E s := by
  obtain ⟨ps, hP, ht, ha⟩ := hT _ hm
  have bP : s.heap.BuiltinsAt X.mg P := TB.bm.keeps I.bk
  have hP' : s.heap.get? P = some { cls := .none, data := .fields ps } := I.hok P _ hP
  have nofr : ∀ f, s.heap.objs.size ≤ f → f ∉ frs X.stack := fun f hf z => by
    rcases List.mem_cons.mp (I.stkSub _ z) with e | e
    · have h1 := I.lt
      rw [← e] at h1
      exact Nat.lt_irrefl _ (Nat.lt_of_lt_of_le h1 hf)
    · exact I.nofs hf e
  cases hc : codeAmong pos ps.toList with
  | none =>
    refine lm_tail (mg := X.mg) (c := c) (P := P) (ps := ps) (closure_ok hfree) I.ok.glob (I.mod.glob.keeps I.bk) hcode (TB.code.keeps I.bk) hP' ht hc TB.gP bP fun c' ctv h' tk hx hge hlt hrec htb => ?_
    obtain ⟨c2, oc, vs, t, e2, hoc, hd, hv⟩ := hrec
    cases e2
    have hsz : s.heap.objs.size ≤ h'.objs.size := Nat.le_trans hge (Nat.le_of_lt hlt)
    have nC : H c' = none := I.hok.fresh hge
    have I1 := LamX.inv_table (t' := tk) (more := #[rawInt pos.line, rawInt pos.col, .ref c']) (h' := h'.push (lmO (X.env.qual ++ "<lambda>") params body scope (cloFrom X.env.cells scope.names []) ((X.mg "__name__").getD .none) c' ctv dV)) I hP
      (fun b o hb e => Heap.get?_push_of_some _ (hx b o hb e)) (Heap.get?_push_of_some _ htb) hge ⟨oc, vs, t, Heap.get?_push_of_some _ hoc, hd, hv⟩
    have hE : LamX.ExtN H (upd (upd H P (.tbl (ps ++ #[rawInt pos.line, rawInt pos.col, .ref c']))) c' (LamX.CodeO c' (X.env.qual ++ "<lambda>"))) := fun b o e n => by
      rw [upd_ne (ne_of_none e nC), upd_ne (fun z => n ps (Option.some.inj (e.symm.trans (by rw [z]; exact hP))))]
      exact e
    have eL : (ps ++ #[rawInt pos.line, rawInt pos.col, .ref c']).toList = ps.toList ++ [rawInt pos.line, rawInt pos.col, .ref c'] := by simp
    refine h h'.objs.size c' ((X.mg "__name__").getD .none) ctv _ _ I1 hE (fun p hp => ?_) (fun b o hb e => Heap.get?_push_of_some _ (hx b o hb e)) (fun b hb hlt2 e => ?_) (Heap.get?_push_size _ rfl) ?_ (nofr _ hsz) upd_same
    · by_cases hb : p.1 = P
      · rw [hu p hp hb, hb]
        refine ⟨_, by rw [upd_ne (ne_of_none hP nC), upd_same], by rw [eL]; exact PySem.TriplesOk_snoc _ _ _ _ ht, fun p' cv hcv => ?_⟩
        rw [eL] at hcv
        rcases LamX.among_app _ ht hcv with z | z
        · obtain ⟨c0, e1, e2⟩ := ha p' cv z
          exact ⟨c0, e1, hE _ _ e2 LamX.codeO_ne⟩
        · exact ⟨c', z, upd_same⟩
      · obtain ⟨ps', a1, a2, a3⟩ := hT p hp
        refine ⟨ps', by rw [upd_ne (ne_of_none a1 nC), upd_ne hb]; exact a1, a2, fun p' cv hcv => ?_⟩
        obtain ⟨c0, e1, e2⟩ := a3 p' cv hcv
        exact ⟨c0, e1, hE _ _ e2 LamX.codeO_ne⟩
    · rw [upd_ne (Nat.ne_of_lt (Nat.lt_of_lt_of_le hlt2 hge)), upd_ne hb]
      exact e
    · have n1 : h'.objs.size ≠ c' := Nat.ne_of_gt hlt
      have n2 : h'.objs.size ≠ P := Nat.ne_of_gt (Nat.lt_of_lt_of_le (Heap.lt_size hP') hsz)
      rw [upd_ne n1, upd_ne n2]
      exact I.hok.fresh hsz
  | some cv =>
    obtain ⟨c', e, hco⟩ := ha pos cv hc
    subst e
    refine lm_tailHit (mg := X.mg) (c := c) (P := P) (ps := ps) (closure_ok hfree) I.ok.glob (I.mod.glob.keeps I.bk) hcode (TB.code.keeps I.bk) hP' ht hc bP fun ctv h' tk hx hsz => ?_
    have I1 : Inv X pins σ H { s with heap := h'.push (lmO (X.env.qual ++ "<lambda>") params body scope (cloFrom X.env.cells scope.names []) ((X.mg "__name__").getD .none) c' ctv dV), toks := tk } := I.kept fun b o e => Heap.get?_push_of_some _ (hx b o e)
    exact h h'.objs.size c' ((X.mg "__name__").getD .none) ctv H _ I1 (LamX.ExtN.refl H) hT (fun b o _ e => Heap.get?_push_of_some _ (hx b o e)) (fun b _ _ e => e) (Heap.get?_push_size _ rfl) (I.hok.fresh hsz) (nofr _ hsz) hco
end
end Mi

set_option Elab.async false
set_option linter.all false
set_option maxRecDepth 100000
set_option maxHeartbeats 2000000
namespace Mi
open PySem PySem.Spec PyProof.Rows L2
/-! ### a lambda with parameters: its names -/
structure LamP (sc scope : Scope) (N ps : List Str) : Prop where
  kind : scope.kind = .function
  co : scope.isCoroutine = false
  gen : scope.isGenerator = false
  own : ∀ y ∈ scope.names, y.2 ≠ .cell ∧ (y.2 = .local → y.1 ∈ ps)
  par : ∀ p ∈ ps, scope.names.lookup p = some .local
  new : ∀ p ∈ ps, p ∉ N
  nd : ps.Nodup
  free : ∀ y ∈ scope.names, y.2 = .free → sc.names.lookup y.1 = some .cell ∨ sc.names.lookup y.1 = some .free
def lamPB (sc scope : Scope) (N ps : List Str) : Bool :=
  decide (scope.kind = .function) && !scope.isCoroutine && !scope.isGenerator && (scope.names.all fun y => !decide (y.2 = .cell) && (!decide (y.2 = .local) || decide (y.1 ∈ ps)) && (!decide (y.2 = .free) || decide (sc.names.lookup y.1 = some .cell) || decide (sc.names.lookup y.1 = some .free))) &&
    (ps.all fun p => decide (scope.names.lookup p = some .local) && decide (p ∉ N)) && decide ps.Nodup
theorem lamP_by {sc scope : Scope} {N ps : List Str} (h : lamPB sc scope N ps = true) : LamP sc scope N ps := by
  unfold lamPB at h
  simp only [Bool.and_eq_true, Bool.or_eq_true, Bool.not_eq_true', decide_eq_true_eq, decide_eq_false_iff_not, List.all_eq_true] at h
  obtain ⟨⟨⟨⟨⟨h1, h2⟩, h3⟩, h4⟩, h5⟩, h6⟩ := h
  refine ⟨h1, h2, h3, fun y hy => ⟨(h4 y hy).1.1, fun e => ?_⟩, fun p hp => (h5 p hp).1, fun p hp => (h5 p hp).2, h6, fun y hy e => ?_⟩
  · rcases (h4 y hy).1.2 with z | z
    · exact absurd e z
    · exact z
  · rcases (h4 y hy).2 with (z | z) | z
    · exact absurd e z
    · exact .inl z
    · exact .inr z
theorem LamP.has {X : Cx} {scope : Scope} {ps : List Str} (L : LamP X.env.scope scope X.N ps) (ok : X.Ok) : ∀ y ∈ scope.names, y.2 = .free → ∃ c, X.env.cells.lookup y.1 = some c := fun y hy e => by
  rcases L.free y hy e with k | k
  · exact ok.has _ (.inl k)
  · exact ok.has _ (.inr k)
/-- the context of the lambda's body: the def's names and its parameters -/
def lamCxP (X : Cx) (A : Around) (outer : List PySem.Env) (s : Shared) (H : Hp) (E : XK) (scope : Scope) (ps : List Str) (f c' : Addr) : Cx where
  prog := X.prog
  w := X.w
  K := X.K
  mg := X.mg
  base := X.base
  A := A.deeper (LamX.lamEnv X scope s.heap.objs.size f c')
  N := X.N ++ ps
  s_0 := s
  H_0 := H
  env := LamX.lamEnv X scope s.heap.objs.size f c'
  outer := outer
  stack := LamX.lamEnv X scope s.heap.objs.size f c' :: outer
  ex := []
  fn := fun _ => false
  calm := true
  pn := []
  xe := fun e s' => wpAny (model X.prog X.w) (A.deeper (LamX.lamEnv X scope s.heap.objs.size f c')) (leaving (LamX.lamEnv X scope s.heap.objs.size f c') e) (fun _ s'' => L2.CX X.prog X.w outer H s E e s'') (fun e' s'' => L2.CX X.prog X.w outer H s E e' s'') s'
theorem lookup_rev : ∀ {ps : List Str} {us : List Value} {j : Nat} {y : Str} {u : Value}, ps.Nodup → us.length = ps.length → ps[j]? = some y → us[j]? = some u → (ps.zip us).reverse.lookup y = some u := by
  intro ps us j y u nd hl hy hu
  have key : ∀ (l : List (Str × Value)), (l.map (·.1)).Nodup → ∀ {y : Str} {u : Value}, (y, u) ∈ l → l.lookup y = some u := by
    intro l
    induction l with
    | nil => intro _ y u h; cases h
    | cons p r ih =>
      intro nd y u h
      obtain ⟨a, b⟩ := p
      rw [List.map_cons, List.nodup_cons] at nd
      rcases List.mem_cons.mp h with e | e
      · cases e
        rw [List.lookup_cons, beq_self_eq_true]
      · have ne : y ≠ a := fun z => nd.1 (z ▸ List.mem_map.mpr ⟨(y, u), e, rfl⟩)
        rw [List.lookup_cons]
        have : (y == a) = false := by simpa using ne
        rw [this]
        exact ih nd.2 e
  apply key
  · rw [List.map_reverse, List.map_fst_zip (by omega)]
    exact (List.reverse_perm ps).symm.nodup nd
  · rw [List.mem_reverse]
    exact List.mem_of_getElem? (i := j) (by rw [List.getElem?_zip_eq_some]; exact ⟨hy, hu⟩)
section
variable {X : Cx} {pins : List (Addr × Obj)} {σ : L2.St} {H HZ : Hp} {s s1 : Shared}
theorem lam_startP {A : Around} {outer : List PySem.Env} {E : XK} {scope : Scope} {ps : List Str} {us : List Value} {vs : List V} {f c' : Addr} {h₁ : Heap} {tk : Nat} (I : Inv X pins σ H s) (L : LamP X.env.scope scope X.N ps) (e0 : Env0 X.prog X.w X.K X.mg X.base A outer s1 HZ) (hd : A.handled = none)
    (un : Un (frs X.stack) [] H HZ s.heap s1.heap) (rv : Vals vs us) (hl : us.length = ps.length) (hns : h₁.Ns s1.heap.objs.size fun y => (ps.zip us).reverse.lookup y) (kp : ∀ b o, s1.heap.get? b = some o → h₁.get? b = some o) :
    Inv (lamCxP X A outer s1 HZ E scope ps f c') [] (σ ++ vs.map some) HZ { s1 with heap := h₁, toks := tk } := by
  have hfree := L.has I.ok
  have hvl : vs.length = us.length := rv.length
  have cm : ∀ {y c}, (cloFrom X.env.cells scope.names []).lookup y = some c → X.env.cells.lookup y = some c := fun {y c} e => by
    rcases cloFrom_mem (PySem.mem_of_lookup e) with hm | ⟨h1, h2⟩
    · cases hm
    · obtain ⟨c1, hc⟩ := hfree _ h1 rfl
      have hc : X.env.cells.lookup y = some c1 := hc
      have e2 : c = c1 := by
        rw [h2, hc] <;> rfl
      rw [e2]
      exact hc
  have look : ∀ {y}, scope.names.lookup y = some .free → ∃ c, (cloFrom X.env.cells scope.names []).lookup y = some c := fun {y} hl => by
    have hy : (y, NameKind.free) ∈ scope.names := PySem.mem_of_lookup hl
    exact mem_lookup (cloFrom_has (cells := X.env.cells) (acc := []) hy)
  have cellK : ∀ {c : Addr} {v : Option Value}, H c = none → s.heap.IsCell c v → h₁.IsCell c v := fun {c v} n ⟨o, ho, hd⟩ => by
    obtain ⟨sl, q⟩ := un.any ho n (by simp)
    exact ⟨_, kp _ _ q, hd⟩
  have noA : ∀ b : Addr, b ∉ (lamCxP X A outer s1 HZ E scope ps f c').ex := fun b z => absurd (show b ∈ ([] : List Addr) from z) (by simp)
  refine ⟨⟨e0.mod, L.kind, rfl, rfl, Nat.le_refl _, fun y z c e1 e2 => I.ok.inj y z c (cm e1) (cm e2), fun y hy => ?_, fun y c z _ => ?_, fun _ => hd, Around.frames_deeper e0.frames, .inr ⟨rfl, rfl⟩, fun b z => absurd z (noA b), e0.bs, e0.bsz, fun b _ _ => noA b,
      fun b z => absurd z (noA b), e0.funs, e0.frf⟩,
    rfl, e0.bare, Un.kept kp, ⟨_, hns, fun i y v e1 e2 e3 => ?_⟩, fun y c e => ?_, e0.hok.fresh (Nat.le_refl _), fun y c e => ?_, fun q hq => absurd (show q ∈ ([] : List (Addr × Obj)) ++ [] from hq) (by simp), e0.hok.kept kp, ?_⟩
  · have hy : scope.names.lookup y = some .cell ∨ scope.names.lookup y = some .free := hy
    rcases hy with hy | hy
    · exact absurd rfl (L.own _ (PySem.mem_of_lookup hy)).1
    · exact look hy
  · have z : false = true := z
    cases z
  · have e3 : Vis scope y := e3
    have e1 : (X.N ++ ps)[i]? = some y := e1
    by_cases hi : i < X.N.length
    · rw [List.getElem?_append_left hi] at e1
      rw [List.getElem?_append_left (by rw [I.len]; exact hi)] at e2
      rcases e3 with k | k | k
      · exact absurd (List.mem_of_getElem? e1) (L.new _ ((L.own _ (PySem.mem_of_lookup k)).2 rfl))
      · exact absurd rfl (L.own _ (PySem.mem_of_lookup k)).1
      · obtain ⟨m, hn, hl⟩ := I.loc
        have hvis : Vis X.env.scope y := (L.free _ (PySem.mem_of_lookup k) rfl).elim (fun k => .inr (.inl k)) (fun k => .inr (.inr k))
        obtain ⟨w', r, q⟩ := hl i y v e1 e2 hvis
        obtain ⟨c2, h2⟩ := look k
        refine ⟨w', r, .inr ⟨.inr k, c2, h2, ?_⟩⟩
        have c1 := cm h2
        rcases q with ⟨k', _⟩ | ⟨_, c3, e', z⟩
        · have k' : X.env.scope.names.lookup y = some .local := k'
          rcases L.free _ (PySem.mem_of_lookup k) rfl with k2 | k2 <;> rw [show X.env.scope.names.lookup y = _ from k2] at k' <;> cases k'
        · rw [c1] at e'
          cases e'
          exact cellK (I.freeC y _ c1) z
    · rw [List.getElem?_append_right (by omega)] at e1
      rw [List.getElem?_append_right (by rw [I.len]; omega), I.len, List.getElem?_map] at e2
      cases hv : vs[i - X.N.length]? with
      | none => rw [hv] at e2; cases e2
      | some v' =>
        rw [hv] at e2
        cases e2
        obtain ⟨u, hu, ru⟩ := Vals.get rv hv
        exact ⟨u, ru, .inl ⟨L.par _ (List.mem_of_getElem? e1), lookup_rev L.nd hl e1 hu⟩⟩
  · obtain ⟨w', z⟩ := I.cell y c (cm e)
    exact ⟨w', cellK (I.freeC y c (cm e)) z⟩
  · obtain ⟨v, o, ho, hd⟩ := I.cell y c (cm e)
    exact un.free c o ho (I.freeC y c (cm e)) (by simp)
  · show (σ ++ vs.map some).length = (X.N ++ ps).length
    rw [List.length_append, List.length_append, List.length_map, I.len, hvl, hl]
end
end Mi

set_option Elab.async false
set_option linter.all false
set_option maxRecDepth 100000
set_option maxHeartbeats 2000000
namespace Mi
open PySem PySem.Spec PyProof.Rows L2
abbrev tupO (us : List Value) : Obj := { cls := .type "tuple", data := .seq us.toArray }
section
variable {X : Cx} {pins : List (Addr × Obj)} {σ : L2.St} {H : Hp} {s : Shared}
theorem nofr_of (I : Inv X pins σ H s) {f : Addr} (hf : s.heap.objs.size ≤ f) : f ∉ frs X.stack := fun z => by
  rcases List.mem_cons.mp (I.stkSub _ z) with e | e
  · have h1 := I.lt
    rw [← e] at h1
    exact Nat.lt_irrefl _ (Nat.lt_of_lt_of_le h1 hf)
  · exact I.nofs hf e
/-- the lambda with one default, a whole number, is made -/
theorem lam_makeD {T : List (Addr × Str)} {c P : Addr} {params : Arguments} {body de : Expr} {scope : Scope} {pos : Pos} {i : Int} {Q : Value → Shared → Prop} (I : Inv X pins σ H s) (TB : LamX.TabB X.base X.mg c P) (hcode : X.env.code = .ref c)
    (hm : (P, X.env.qual ++ "<lambda>") ∈ T) (hu : ∀ p ∈ T, p.1 = P → p.2 = X.env.qual ++ "<lambda>") (hT : LamX.Tabs T H) (hfree : ∀ y ∈ scope.names, y.2 = .free → ∃ c, X.env.cells.lookup y.1 = some c)
    (hdef : defaultsOf params X.env = ([eval de X.env], [])) (hde : PE X de (fun σ H Q => Q (.int i) H))
    (h : ∀ (f c' T0 : Addr) (t : Tok) (pm ctv : Value) (H1 : Hp) (s' : Shared), Inv X pins σ H1 s' → LamX.ExtN H H1 → LamX.Tabs T H1 → s'.heap.get? T0 = some (tupO [.int i t]) → H1 T0 = none → T0 ∉ frs X.stack →
      s'.heap.get? f = some (lmO (X.env.qual ++ "<lambda>") params body scope (cloFrom X.env.cells scope.names []) pm c' ctv (.ref T0)) → H1 f = none → f ∉ frs X.stack → H1 c' = some (LamX.CodeO c' (X.env.qual ++ "<lambda>")) → Q (.ref f) s') :
    wpAny (model X.prog X.w) X.A (eval (.Lambda params body scope pos) X.env) Q X.xe s := by
  rw [arm_eval_Lambda, hdef]
  show wpAny (model X.prog X.w) X.A (do let dv ← evalAll [eval de X.env]; let kdv ← holding dv (evalAllOpt []); makeFunction "<lambda>" (X.env.qual ++ "<lambda>") params (.expr body) scope X.env dv kdv [] pos pos.line) Q X.xe s
  refine wpAny_bind ?_
  show wpAny (model X.prog X.w) X.A (do let v ← eval de X.env; return v :: (← holding [v] (evalAll []))) _ X.xe s
  refine wpAny_bind (thn (hde.run pins s σ H (fun v H1 => v = .int i ∧ H1 = H) I ⟨rfl, rfl⟩) fun u s1 got => ?_)
  obtain ⟨v, H1, I1, rv, ev, eH⟩ := got
  subst ev
  subst eH
  obtain ⟨t, rfl⟩ : ∃ t, u = Value.int i t := rv
  refine wpAny_bind (wpAny_holding (wpAny_pure (wpAny_pure (wpAny_bind (wpAny_holding (wpAny_pure ?_))))))
  rw [makeFunction_eq]
  simp only [List.zip_nil_right, List.filterMap_nil, List.isEmpty_nil, List.isEmpty_cons, Bool.false_eq_true, if_false, if_true, pure_bind]
  refine wpAny_bind (wpAny_newTextTuple ?_)
  have I2 : Inv X pins σ H1 { s1 with heap := s1.heap.push (tupO [.int i t]) } := I1.kept fun b o e => Heap.get?_push_of_some _ e
  have lt : s1.heap.objs.size < (s1.heap.push (tupO [.int i t])).objs.size := by rw [Heap.size_push]; omega
  refine lm_made I2 TB hcode hm hu hT hfree fun f c' pm ctv H2 s2 J eN T2 kp kn hf hfn hfr hco => ?_
  obtain ⟨ps, hP, _, _⟩ := hT _ hm
  have hPl : P < s1.heap.objs.size := Heap.lt_size (I1.hok P _ hP)
  have ne : s1.heap.objs.size ≠ P := Nat.ne_of_gt hPl
  exact h f c' s1.heap.objs.size t pm ctv H2 s2 J eN T2 (kp _ _ ne (Heap.get?_push_size _ rfl)) (kn _ ne lt (I1.hok.fresh (Nat.le_refl _))) (nofr_of I1 (Nat.le_refl _)) hf hfn hfr hco
end
end Mi

set_option Elab.async false
set_option linter.all false
set_option maxRecDepth 100000
set_option maxHeartbeats 2000000
namespace Mi
open PySem PySem.Spec PyProof.Rows L2
theorem RelEnv.appI {R : Rx} {α : List Addr} {H : Hp} {env : En} {σ : St} {i : Int} (r : RelEnv R α H env σ) : RelEnv R α H (env ++ [some (.int i)]) (σ ++ [some (.int i)]) := by
  refine ⟨by rw [List.length_append, List.length_append, r.1]; rfl, fun j d e => ?_⟩
  by_cases hj : j < env.length
  · rw [List.getElem?_append_left hj] at e
    obtain ⟨v, h1, h2⟩ := r.2 j d e
    exact ⟨v, by rw [List.getElem?_append_left (by rw [← r.1]; exact hj)]; exact h1, h2⟩
  · rw [List.getElem?_append_right (by omega)] at e
    cases hk : j - env.length with
    | zero =>
      rw [hk] at e
      cases e
      refine ⟨.int i, ?_, RelS.of .int⟩
      rw [List.getElem?_append_right (by rw [← r.1]; omega), ← r.1, hk]
      rfl
    | succ k => rw [hk] at e; cases e
section
variable {X : Cx} {R : Rx} {pins : List (Addr × Obj)} {σ : St} {H : Hp} {s : Shared} {env : En}
/-- the call of a lambda with one default that the def got -/
theorem de_actD {CXg : CXT} {Eg : XK} {Ng : List Str} {qg : Str} {sg : Scope} {g f c' T0 : Addr} {cdg pm ctv : Value} {pr : Arguments} {bd : Expr} {sc : Scope} {k j : Nat} {a z : Str} {i : Int} {t : Tok} {pn : List (Addr × Obj)} {xe : Value → Shared → Prop} {W : WX} {fe : Fe} {p1 p2 : Pos}
    (I : Inv X pins σ H s) (L : LamP X.env.scope sc X.N [z]) (hT : s.heap.get? T0 = some (tupO [.int i t])) (hTn : H T0 = none) (hTr : T0 ∉ frs X.stack) (hf : s.heap.get? f = some (lmO (X.env.qual ++ "<lambda>") pr bd sc (cloFrom X.env.cells sc.names []) pm c' ctv (.ref T0))) (hfn : H f = none) (hfr : f ∉ frs X.stack)
    (bnd : ∃ k, bindArgs (lmF (X.env.qual ++ "<lambda>") pr bd sc (cloFrom X.env.cells sc.names []) pm (.ref c') ctv (.ref T0)) ⟨[], []⟩ = seqItems? (.ref T0) >>= k ∧ k (some #[.int i t]) = pure [(z, .int i t)])
    (tk : Takes ((cxOf CXg X.prog X.w X.K X.mg X.base Ng qg sg g cdg X.A X.stack s H Eg).tr pn xe) W) (hCX : CXg = L2.CX X.prog X.w) (hr : RoomG (k + 1) (X.A.deeper (envOfC qg sg s.heap.objs.size g cdg)))
    (body : ∀ (A : Around) (outer : List PySem.Env) (s1 : Shared) (H1 : Hp) (E : XK), RoomG k (A.deeper (LamX.lamEnv X sc s1.heap.objs.size f c')) → DE (lamCxP X A outer s1 H1 E sc [z] f c') R (fun cls dd _ H => E cls dd H) bd fe)
    (hN : Ng[j]? = some a) (hv : Vis sg a) (hd : (a == ("__debug__" : Str)) = false) (hcd : (a == ("__classdict__" : Str)) = false) :
    DE ((cxOf CXg X.prog X.w X.K X.mg X.base Ng qg sg g cdg X.A X.stack s H Eg).tr pn xe) (R.lam f c' (X.env.qual ++ "<lambda>") env σ) W (.Call (.Name a p1) [] [] p2) (eThk j fun h => fe (env ++ [some (.int i)]) h) := by
  subst hCX
  refine ⟨fun pinsZ sZ τ G Q IZ want => ?_⟩
  obtain ⟨α, envZ, hp, re, rh, fi⟩ := want
  have key : ∃ n, envZ[j]? = some (some (.lam n)) ∧ FinE (R.lam f c' (X.env.qual ++ "<lambda>") env σ) W α G τ (fe (env ++ [some (.int i)]) hp) Q := by
    unfold eThk at fi
    split at fi
    · rename_i n q
      exact ⟨n, q, fi⟩
    · exact (show False from fi).elim
  obtain ⟨n, en, fi⟩ := key
  obtain ⟨v, hs, rs⟩ := re.2 j _ en
  obtain ⟨f2, la, ev⟩ := rs
  have ef : f2 = f := by
    have la : (if n = 0 then some f else none) = some f2 := la
    split at la
    · exact (Option.some.inj la).symm
    · cases la
  subst ev
  subst ef
  obtain ⟨kept, rel, co⟩ := rh.kp
  refine wpAny_Call_Name_kw (thn ((pe_var (pos := p1) (i := j) hN hv hd hcd).run pinsZ sZ τ G (fun u G1 => u = .ref f2 ∧ G1 = G) IZ ⟨.ref f2, hs, rfl, rfl⟩) fun u s1 got => ?_)
  obtain ⟨u1, G1, I1, r1, rfl, rfl⟩ := got
  obtain rfl : u = Value.ref f2 := r1
  have there : s1.heap.get? f2 = some (lmO (X.env.qual ++ "<lambda>") pr bd sc (cloFrom X.env.cells sc.names []) pm c' ctv (.ref T0)) := I1.base.keep f2 _ hf hfn hfr (fun z => nomatch (show f2 ∈ ([] : List Addr) from z))
  have thereT : s1.heap.get? T0 = some (tupO [.int i t]) := I1.base.keep T0 _ hT hTn hTr (fun z => nomatch (show T0 ∈ ([] : List Addr) from z))
  refine PySem.W.callWith_F0 ⟨_, _, _, _, there⟩ ?_
  have since : Un (frs X.stack) [] H G1 s.heap s1.heap := I1.base
  obtain ⟨⟨oc, vs, tt, hoc, hdc, hvc⟩, _, _⟩ := I1.hok c' _ co
  have rc : codeAny (model X.prog X.w) (X.A.deeper (envOfC qg sg s.heap.objs.size g cdg)) (.call (.ref f2) ⟨[], []⟩) (CR (L2.CX X.prog X.w) (envOfC qg sg s.heap.objs.size g cdg :: X.stack) X.prog X.w G1 s1 Q (fun cls dd G2 => W cls dd τ G2)) s1 := by
    refine PySem.W.kla_callFunE hr.rm.depth there rfl L.co L.gen rfl ⟨c', oc, vs, tt, rfl, hoc, hdc, hvc⟩ ?_
    obtain ⟨kk, b1, b2⟩ := bnd
    show wpAny _ _ (bindArgs (lmF (X.env.qual ++ "<lambda>") pr bd sc (cloFrom X.env.cells sc.names []) pm (.ref c') ctv (.ref T0)) ⟨[], []⟩) _ _ s1
    rw [b1]
    refine wpAny_bind (wpAny_seqItems thereT rfl ?_)
    rw [b2]
    refine wpAny_pure (wpAny_newFunctionEnv (fun y hy => (L.own y hy).1) (fun y hy => ?_) (fun h₁ hns hsb => ⟨I1.nolimit.fresh _ hsb, ?_⟩) L.kind)
    · rw [List.mem_singleton.mp hy]
      exact L.par z (List.mem_singleton.mpr rfl)
    have kp : ∀ b o, s1.heap.get? b = some o → h₁.get? b = some o := fun b o e => hsb.extBut b o (Nat.ne_of_lt (Heap.lt_size e)) (Heap.get?_push_of_some _ e)
    have J := lam_startP (E := fun cls dd G2 => W cls dd τ G2) (c' := c') (tk := s1.toks + [(z, Value.int i t)].length) (f := f2) (ps := [z]) (us := [.int i t]) (vs := [.int i]) I L I1.env0 hr.rm.hd since (.cons ⟨t, rfl⟩ .nil) rfl hns kp
    refine PySem.W.kla_codeExpr (wpAny_mono ((body _ _ s1 G1 (fun cls dd G2 => W cls dd τ G2) (hr.deeper _)).run [] _ _ G1 Q J ?_) (fun v s' hq => ?_) fun e s' hq => hq)
    · refine ⟨α, env ++ [some (.int i)], hp, rel.appI, rh.unlam, ?_⟩
      cases er : fe (env ++ [some (.int i)]) hp with
      | no => rw [er] at fi; exact fi
      | ok d h2 =>
        rw [er] at fi
        exact fun α' H' v x rh2 rd => fi α' H' v x (rh2.tolam (rel.ext x) (x.st _ _ co (by unfold LamX.CodeO; trivial))) rd.tolam
      | ex e h2 =>
        rw [er] at fi
        exact fun α' H' cls dd x rh2 rx => fi α' H' cls dd x (rh2.tolam (rel.ext x) (x.st _ _ co (by unfold LamX.CodeO; trivial))) rx.tolam
    · obtain ⟨w', H', J', rv, q⟩ := hq
      exact ⟨w', H', J'.os, J'.bare, J'.base, J'.hok, rv, q⟩
  refine wpAny_call (codeAny_mono rc fun r s' hq => ?_)
  cases r with
  | error e => exact tk e s' (XE.of_call I1 (fun _ _ _ z => z) hq)
  | ok fl =>
    cases fl with
    | ret u => exact I1.after hq
    | next => exact False.elim hq
    | brk => exact False.elim hq
    | cont => exact False.elim hq
end
@[simp] def eToldD (F : (Hd → Res D) → Hd → Res D) (i : Int) (fe : Fe) : Fe := fun env h => F (fun h1 => fe (env ++ [some (.int i)]) h1) h
section
variable {X : Cx} {W : WX} {Tt : List (Addr × Str)} {d : He.DefD} {N : List Str} {a x z : Str} {k kt : Nat} {fb : (Hd → Res D) → Fs} {c P : Addr} {pr : Arguments} {bd de : Expr} {sc : Scope} {i : Int} {fe : Fe} {p lpos pos : Pos}
theorem de_toldD (hF : ToldX X.prog X.w X.K X.mg X.base d N a kt fb) (hk : kt ≤ k + 1) (hr : RoomG (k + 2) X.A) (hg : Gl X x) (hm : X.mg x = some (.ref (He.fAd X.K d.at_))) (tk : Takes X W)
    (TB : LamX.TabB X.base X.mg c P) (hcode : X.env.code = .ref c) (hmT : (P, X.env.qual ++ "<lambda>") ∈ Tt) (hu : ∀ p ∈ Tt, p.1 = P → p.2 = X.env.qual ++ "<lambda>") (L : LamP X.env.scope sc X.N [z]) 
    (lam : ∀ (A : Around) (outer : List PySem.Env) (s : Shared) (H : Hp) (E : XK) (f c' : Addr), RoomG k (A.deeper (LamX.lamEnv X sc s.heap.objs.size f c')) → DE (lamCxP X A outer s H E sc [z] f c') (rx X.K X.mg Tt) (fun cls dd _ H => E cls dd H) bd fe)
    (hdef : defaultsOf pr X.env = ([eval de X.env], [])) (hde : PE X de (fun σ H Q => Q (.int i) H)) (bnd : ∀ (q : Str) (cl : List (Str × Addr)) (pm cv ctv : Value) (T0 : Addr) (t : Tok), ∃ k, bindArgs (lmF q pr bd sc cl pm cv ctv (.ref T0)) ⟨[], []⟩ = seqItems? (.ref T0) >>= k ∧ k (some #[.int i t]) = pure [(z, .int i t)]) (hdb : (x == ("__debug__" : Str)) = false := by decide) :
    DE X (rx X.K X.mg Tt) W (.Call (.Name x p) [.Lambda pr bd sc lpos] [] pos) (eToldD (toldF N.length fb) i fe) := by
  refine ⟨fun pins s σ H Q I want => ?_⟩
  obtain ⟨α, env, hp, re, rh, fi⟩ := want
  obtain ⟨fd, FD⟩ := hF.fd
  have hb := hF.bnd fd FD
  obtain ⟨oc, od, dV, kV, doc, pm, an, cdv, ct, osl, efd, lk, code, _, _⟩ := id FD.ex
  subst efd
  refine wpAny_Call_Name_kw (ld_glob I hg hm ?_ hdb)
  refine PySem.W.callWith_K (h₀ := X.base) I.ok.mod.kin FD.kp ?_ (by rfl) (by rfl)
  show wpAny _ _ (spliced ((false, eval (.Lambda pr bd sc lpos) X.env) :: backTo pos (starEach [] X.env))) _ _ s
  refine Calls.spliced_cons (lam_makeD I TB hcode hmT hu rh.tab (L.has I.ok) hdef hde fun f c' T0 t pm' ctv H1 s' I1 eN T1 hT hTn hTr hf hfn hfr hco => ?_)
  refine Calls.spliced_nil ⟨I1.kIn, ?_⟩
  obtain ⟨x1, rh1⟩ := rh.extN eN T1
  have re1 := re.ext x1
  have fi1 := Fin.mono fi x1
  have rc : codeAny (model X.prog X.w) X.A (.call (.ref (He.fAd X.K d.at_)) ⟨[.ref f], []⟩) (CR (L2.CX X.prog X.w) X.stack X.prog X.w H1 s' Q (fun cls dd G => W cls dd σ G)) s' := by
    refine run_at (N := N) (ps := [a]) (us := [.ref f]) (vs := [.ref f]) lk code hF.sc hr I1.env0 (hb s' (.ref f) I1.kIn) (.cons rfl .nil) rfl fun hr2 => ?_
    refine ⟨_, hF.body cdv X.A X.stack s' H1 (fun cls dd G => W cls dd σ G) ((rx X.K X.mg Tt).lam f c' (X.env.qual ++ "<lambda>") env σ).la Tt _ ((rx X.K X.mg Tt).lam f c' (X.env.qual ++ "<lambda>") env σ).mono (fun h1 => fe (env ++ [some (.int i)]) h1) (hr2.mono hk) fun W2 pn xe p1 p2 tk2 => ?_, ?_⟩
    · exact de_actD I1 L hT hTn hTr hf hfn hfr (bnd _ _ _ _ _ _ _) tk2 rfl hr2 (fun A outer s2 H2 E hr3 => lam A outer s2 H2 E f c' hr3) hF.n0 hF.vis hF.nd hF.ncd
    · have len : N.length = 1 + (N.length - 1) := by
        have := hF.n0
        cases N with
        | nil => cases this
        | cons y r => simp; omega
      refine ⟨α, some (.lam 0) :: List.replicate (N.length - 1) none, hp, ⟨?_, fun i dd e => ?_⟩, rh1.tolam re1 hco, ?_⟩
      · unfold L2.start
        simp
      · cases i with
        | zero =>
          cases e
          exact ⟨.ref f, rfl, f, rfl, rfl⟩
        | succ i =>
          rw [List.getElem?_cons_succ, List.getElem?_replicate] at e
          split at e <;> cases e
      · have back : ∀ {α' : List Addr} {H' : Hp} {h' : Hd}, RH ((rx X.K X.mg Tt).lam f c' (X.env.qual ++ "<lambda>") env σ) α' h' H' → RH (rx X.K X.mg Tt) α' h' H' := fun r => r.unlam
        have fi2 : FinE (rx X.K X.mg Tt) W α H1 σ (toldF N.length fb (fun h1 => fe (env ++ [some (.int i)]) h1) hp) Q := fi1
        unfold toldF at fi2
        cases eb : fb (fun h1 => fe (env ++ [some (.int i)]) h1) (some (.lam 0) :: List.replicate (N.length - 1) none) hp with
        | nx env2 h2 => rw [eb] at fi2; exact fun α' H' σ' x2 rh2 _ => fi2 α' H' .non x2 (back rh2) .non
        | rt d2 h2 => rw [eb] at fi2; exact fun α' H' v x2 rh2 rd => fi2 α' H' v x2 (back rh2) (RelD.unlam (R := rx X.K X.mg Tt) (f := f) (c' := c') (q := X.env.qual ++ "<lambda>") (env := env) (σ := σ) rd)
        | ex e env2 h2 => rw [eb] at fi2; exact fun α' H' σ' cls dd x2 rh2 _ rx2 => fi2 α' H' cls dd x2 (back rh2) (RelX.unlam (R := rx X.K X.mg Tt) (f := f) (c' := c') (q := X.env.qual ++ "<lambda>") (env := env) (σ := σ) rx2)
        | bk env2 h2 => rw [eb] at fi2; exact (show False from fi2).elim
        | ct env2 h2 => rw [eb] at fi2; exact (show False from fi2).elim
        | no => rw [eb] at fi2; exact fi2
  refine wpAny_call (codeAny_mono rc fun r s2 hq => ?_)
  cases r with
  | error e => exact tk e s2 (XE.of_call I1 (fun _ _ _ z => z) hq)
  | ok fl =>
    cases fl with
    | ret u => exact I1.after hq
    | next => exact False.elim hq
    | brk => exact False.elim hq
    | cont => exact False.elim hq
end
end Mi

set_option Elab.async false
set_option linter.all false
set_option maxRecDepth 100000
set_option maxHeartbeats 2000000
namespace Mi
open PySem PySem.Spec PyProof.Rows L2
/-! ### x op= e, whole numbers -/
@[simp] def sAug (f : Int → Int → Int) (i : Nat) (fe : Fe) : Fs := fun env h => match env[i]? with
  | some (some (.int a)) => sOf fe (fun d env h => match d with
    | .int b => .nx (env.set i (some (.int (f a b)))) h
    | _ => .no) env h
  | _ => .no
section
variable {X : Cx} {R : Rx} {W : WX} {pos pos' : Pos} {e o ix : Expr} {fe fo fi : Fe} {op : Operator} {f : Int → Int → Int}
theorem ds_aug (i : Nat) {x : Str} (hN : X.N.Nodup) (hop : PIp X op (ipI f)) (he : DE X R W e fe) (hi : X.N[i]? = some x := by rfl) (hx : Loc X.env.scope x := by first | exact Or.inl rfl | exact Or.inr rfl)
    (hf : X.fn x = true ∨ X.env.scope.names.lookup x = some .local := by first | exact .inl rfl | exact .inr rfl | assumption) : DS X R W (.AugAssign (.Name x pos') op e pos) (sAug f i fe) := by
  refine ⟨fun pins s σ H D I h => (ps_aug (i := i) hN hi hx he hop hf).run pins s σ H D I ?_⟩
  obtain ⟨α, env, hp, re, rh, fi⟩ := h
  have key : ∃ a, env[i]? = some (some (.int a)) ∧ FinS R W α H D (sOf fe (fun d env h => match d with
    | .int b => .nx (env.set i (some (.int (f a b)))) h
    | _ => .no) env hp) := by
    unfold sAug at fi
    split at fi
    · rename_i a q
      exact ⟨a, q, fi⟩
    · exact (show False from fi).elim
  obtain ⟨a, ea, fi⟩ := key
  obtain ⟨v, hs, rs⟩ := re.2 i _ ea
  have ev : v = .int a := RelD.int_inv (RelS.to rs (by intro n z; cases z))
  subst ev
  refine ⟨_, hs, α, env, hp, re, rh, (finS_of re fi).imp fun w H1 hq => ?_⟩
  obtain ⟨d, α1, h1, _, x1, rh1, r1, f1⟩ := hq
  cases d with
  | int b =>
    exact ⟨a, b, rfl, r1.int_inv, f1 α1 H1 _ .refl rh1 ((re.ext x1).set .int)⟩
  | _ => exact (show False from f1).elim
end
end Mi

set_option Elab.async false
set_option linter.all false
set_option maxRecDepth 100000
set_option maxHeartbeats 2000000
namespace Mi
open PySem PySem.Spec PyProof.Rows L2
/-! ### o[i] op= e, whole numbers in lists and dicts -/
def rGetL : V → V → Hp → VK → Prop := fun o i H Q => ∃ p xs k v, o = .ref p ∧ i = .int k ∧ H p = some (.lst xs) ∧ atI xs k = some v ∧ Q v H
def rGetD : V → V → Hp → VK → Prop := fun o i H Q => ∃ a v, o = .ref a ∧ DGet H a i (some v) ∧ Q v H
section
variable {X : Cx} {R : Rx} {W : WX} {pos tpos : Pos} {e o ix : Expr} {fe fo fi : Fe} {op : Operator} {f : Int → Int → Int}
theorem pget_or (hu : X.A.units + 1 < cLine) : PGet X (fun o i H Q => rGetL o i H Q ∨ rGetD o i H Q) := by
  intro pins s σ H o i ov iv Q I ro ri h
  rcases h with ⟨p, xs, k, v, rfl, rfl, hp, he, q⟩ | ⟨a, v, rfl, g, q⟩
  · cases ro
    obtain ⟨t, rfl⟩ := ri
    obtain ⟨its, n, r, ho, hz⟩ := I.lst hp
    obtain ⟨j, h1, h2, h3, h4, h5⟩ := atI_get he
    obtain ⟨w, ew, rw'⟩ := r.get h2
    have hl := r.length
    have hn := line63
    have il : s.heap.IsList p its.toArray := ⟨_, ho, rfl, _, rfl⟩
    have fin : EP X pins σ Q w s := ⟨v, H, I, rw', q⟩
    by_cases h0 : 0 ≤ k
    · have hj : k.toNat = j := by
        rw [seqIndex_of h0 h5] at h1
        exact Option.some.inj h1
      exact wpAny_getItem_list il h0 (by omega) (by rw [hj]; simpa using ew) fin
    · have hj : (k + (its.toArray.size : Int)).toNat = j := by
        rw [seqIndex_neg (by omega) h4] at h1
        rw [List.size_toArray, ← hl]
        exact Option.some.inj h1
      exact wpAny_getItem_list_neg il (by omega) (by rw [List.size_toArray, ← hl]; exact h4) (by omega) (by rw [hj]; simpa using ew) fin
  · cases (show ov = Value.ref a from ro)
    exact d_getItem hu I g ri fun w' s' I' rw' => ⟨v, H, I', rw', q⟩
/-- what stands at o[i], in a list or a dict that may be written -/
def getAt (o i : D) (h : Hd) : Option D := match o with
  | .ref n => (match h[n]? with
    | some (.lst xs) => (match i with
      | .int k => atI xs k
      | _ => none)
    | some (.dic kvs) => (match keyD i with
      | some ky => valD kvs ky
      | none => none)
    | _ => none)
  | _ => none
theorem getAt_rel {α : List Addr} {h : Hd} {H : Hp} {o i d : D} {ov iv : V} {Q : VK} (rh : RH R α h H) (ro : RelD R α H o ov) (ri : RelD R α H i iv) (e : getAt o i h = some d) (q : ∀ v, RelD R α H d v → Q v H) : rGetL ov iv H Q ∨ rGetD ov iv H Q := by
  unfold getAt at e
  split at e
  · rename_i n
    obtain ⟨a, ea, rfl⟩ := ro.ref_inv
    obtain ⟨ob, eo, rob⟩ := rh.at ea
    rw [eo] at e
    cases ob with
    | lst xs =>
      obtain ⟨ws, hq, r⟩ := rob
      dsimp only at e
      split at e
      · rename_i k
        obtain ⟨v, ev, rv⟩ := r.at e
        exact .inl ⟨a, ws, k, v, rfl, ri.int_inv, hq, ev, q v rv⟩
      · cases e
    | fro xs => cases e
    | dic kvs =>
      obtain ⟨ws, hq, r⟩ := rob
      dsimp only at e
      split at e
      · rename_i ky ek
        rcases r.val (k := ky) with ⟨z1, z2⟩ | ⟨d', v, z1, z2, rv⟩
        · rw [z1] at e; cases e
        · rw [z1] at e
          cases e
          exact .inr ⟨a, v, rfl, .inl ⟨ws, ky, .inl hq, keyD_rel ek ri, z2.symm⟩, q v rv⟩
      · cases e
  · cases e
def sAugS (f : Int → Int → Int) (fo fi fe : Fe) : Fs := sOf fo fun o => sOf fi fun i env h => match getAt o i h with
  | some (.int a) => sOf fe (fun d env h => match d with
    | .int b => (match setAt o i (.int (f a b)) h with
      | some h1 => .nx env h1
      | none => .no)
    | _ => .no) env h
  | _ => .no
theorem setAt_rel {α : List Addr} {H : Hp} {h h1 : Hd} {dov div dv : D} {ov iv v : V} {Q : Hp → Prop} (rh : RH R α h H) (ro : RelD R α H dov ov) (ri : RelD R α H div iv) (rv : RelD R α H dv v) (e : setAt dov div dv h = some h1)
    (q : ∀ H1, Ext α H α H1 → RH R α h1 H1 → Q H1) : rSetL ov iv v H Q ∨ rSetD ov iv v H Q := by
  cases dov with
  | ref n =>
    obtain ⟨a, ea, rfl⟩ := ro.ref_inv
    unfold setAt at e
    dsimp only at e
    obtain ⟨ob, eo, rob⟩ := rh.at ea
    rw [eo] at e
    cases ob with
    | lst xs =>
      obtain ⟨ws, hq, r⟩ := rob
      cases div with
      | int k =>
        dsimp only at e
        cases e0 : ixN xs.length k with
        | none => rw [e0] at e; cases e
        | some j =>
          rw [e0] at e
          cases e
          obtain ⟨x4, rh4⟩ := write_lst rh ea hq (r.set j rv)
          exact .inl ⟨a, ws, k, j, rfl, ri.int_inv, hq, by rw [← r.length]; exact e0, q _ x4 rh4⟩
      | _ => cases e
    | fro xs => cases e
    | dic kvs =>
      obtain ⟨ws, hq, r⟩ := rob
      dsimp only at e
      cases ek : keyD div with
      | none => rw [ek] at e; cases e
      | some ky =>
        rw [ek] at e
        dsimp only at e
        by_cases hl : kvs.length < 16777216
        · rw [if_pos hl] at e
          cases e
          have x4 : Ext α H α (upd H a (.dK (putK ws ky v))) := Ext.write ea hq trivial
          have rh4 : RH R α (h.set n (.dic (putD kvs ky dv))) (upd H a (.dK (putK ws ky v))) := rh.write ea hq trivial ⟨_, upd_same, RelKs.ext x4 _ _ (r.put rv)⟩
          exact .inr ⟨a, _, rfl, .inl ⟨ws, ky, hq, keyD_rel ek ri, by rw [← r.length, lineEq]; exact hl, rfl⟩, q _ x4 rh4⟩
        · rw [if_neg hl] at e
          cases e
  | _ => cases e
theorem ds_augS (hu : X.A.units + 1 < cLine) (hop : PIp X op (ipI f)) (ho : DE X R W o fo) (hi : DE X R W ix fi) (he : DE X R W e fe)
    (ha : ∀ ov iv new, augStore ix ov iv new = (do holding [new, ov, iv] (setItem ov iv new); release [new, ov, iv] []; pure .next) := by intros; rfl) : DS X R W (.AugAssign (.Subscript o ix tpos) op e pos) (sAugS f fo fi fe) := by
  refine ⟨fun pins s σ H D I h => (ps_augS ho hi (pget_or hu) he hop (pset_or hu) ha).run pins s σ H D I ?_⟩
  obtain ⟨α, env, hp, re, rh, fx⟩ := h
  refine ⟨α, env, hp, re, rh, (finS_of re fx).imp fun ov H1 hq => ?_⟩
  obtain ⟨dov, α1, h1, _, x1, rh1, ro, f1⟩ := hq
  refine ⟨α1, env, h1, re.ext x1, rh1, (finS_of (re.ext x1) f1).imp fun iv H2 hq => ?_⟩
  obtain ⟨div, α2, h2, _, x2, rh2, ri, f2⟩ := hq
  have re2 := (re.ext x1).ext x2
  have key : ∃ a, getAt dov div h2 = some (.int a) ∧ FinS R W α2 H2 D (sOf fe (fun d env h => match d with
    | .int b => (match setAt dov div (.int (f a b)) h with
      | some h1 => .nx env h1
      | none => .no)
    | _ => .no) env h2) := by
    have f2 : FinS R W α2 H2 D (match getAt dov div h2 with
      | some (.int a) => sOf fe (fun d env h => match d with
        | .int b => (match setAt dov div (.int (f a b)) h with
          | some h1 => .nx env h1
          | none => .no)
        | _ => .no) env h2
      | _ => .no) := f2
    split at f2
    · rename_i a q
      exact ⟨a, q, f2⟩
    · exact (show False from f2).elim
  obtain ⟨a, eg, f2⟩ := key
  refine getAt_rel rh2 (RelD.ext x2 _ _ ro) ri eg fun old rold => ?_
  have eold : old = .int a := rold.int_inv
  subst eold
  refine ⟨α2, env, h2, re2, rh2, (finS_of re2 f2).imp fun v H3 hq => ?_⟩
  obtain ⟨d, α3, h3, _, x3, rh3, r3, f3⟩ := hq
  cases d with
  | int b =>
    refine ⟨a, b, rfl, r3.int_inv, ?_⟩
    cases es : setAt dov div (.int (f a b)) h3 with
    | none =>
      have f3 : FinS R W α3 H3 D (match setAt dov div (.int (f a b)) h3 with
        | some h1 => .nx env h1
        | none => .no) := f3
      rw [es] at f3
      exact (show False from f3).elim
    | some h4 =>
      have f3 : FinS R W α3 H3 D (match setAt dov div (.int (f a b)) h3 with
        | some h1 => .nx env h1
        | none => .no) := f3
      rw [es] at f3
      exact setAt_rel rh3 (RelD.ext (x2.trans x3) _ _ ro) (RelD.ext x3 _ _ ri) .int es fun H4 x4 rh4 => f3 _ _ _ x4 rh4 ((re2.ext x3).ext x4)
  | _ => exact (show False from f3).elim
end
end Mi

set_option Elab.async false
set_option linter.all false
set_option maxRecDepth 100000
set_option maxHeartbeats 2000000
namespace Mi
open PySem PySem.Spec PyProof.Rows L2
/-! ### comprehensions with two clauses -/
def lcO (src : Src) (tg : Fg) (tst : Ft) (it1 : Fi) (tg1 : Fg) (tst1 : Ft) (el : Fe) (vs1 : List Nat) (env : En) (k : Nat) : Nat → Nat → Hd → Res D
  | 0, _, _ => .no
  | n + 1, i, h => match src h i with
    | .stop => .ok (.ref k) h
    | .bad => .no
    | .item d => (match tg d env h with
      | none => .no
      | some (env1, h1) => (match tst env1 h1 with
        | .ok false h2 => lcO src tg tst it1 tg1 tst1 el vs1 env k n (i + 1) h2
        | .ok true h2 => (match it1 env1 h2 with
          | .ok src1 h3 => (match lcL src1 tg1 tst1 el (wipeE env1 vs1) k most 0 h3 with
            | .ok _ h4 => lcO src tg tst it1 tg1 tst1 el vs1 env k n (i + 1) h4
            | _ => .no)
          | _ => .no)
        | _ => .no))
def eLc2 (it : Fi) (tg : Fg) (tst : Ft) (it1 : Fi) (tg1 : Fg) (tst1 : Ft) (el : Fe) (vs vs1 : List Nat) : Fe := fun env h => match it env h with
  | .ok src h1 => lcO src tg tst it1 tg1 tst1 el vs1 (wipeE env vs) h1.length most 0 (h1 ++ [.lst []])
  | .ex e h1 => .ex e h1
  | .no => .no
section
variable {X : Cx} {R : Rx} {W : WX} {pos : Pos}
theorem lc_turns2 {σ : St} {src : Src} {J : It} {tg tg1 : Fg} {tst tst1 : Ft} {it1 : Fi} {el : Fe} {env : En} {vs ts vs1 ts1 : List Nat} {α1 : List Addr} {h1 : Hd} {H1 : Hp} {Q : VK} (re : RelEnv R α1 H1 env σ) (rh : RH R α1 h1 H1) (rj : RelI R α1 H1 src J) (hts : ∀ i ∈ ts, i ∈ vs) (hts1 : ∀ i ∈ ts1, i ∈ vs1)
    (f : FinE R W α1 H1 σ (lcO src tg tst it1 tg1 tst1 el vs1 (wipeE env vs) h1.length most 0 (h1 ++ [.lst []])) Q) (D : Addr) (hD : H1 D = none) :
    ∃ W' : Nat → Nat → Hp → Prop, (∃ m, W' 0 m (upd H1 D (.lst []))) ∧ ∀ i m H, W' i m H →
      (J.stop i H ∧ Q (.ref D) H) ∨ (J.go i H ∧ ∃ Nx : Hp → Prop, (∀ H', Nx H' → ∃ m', m' < m ∧ W' (i + 1) m' H') ∧ ∀ x H', J.yld i H x H' → tG R ts tg x (wipe σ vs) H' fun σ2 H2 => wipe σ2 vs = wipe σ vs ∧ tT R W0 tst σ2 H2 fun b H3 =>
        if b = true then tI R W0 it1 σ2 H3 fun J1 H4 => ∃ W1 : Nat → Nat → Hp → Prop, (∃ m, W1 0 m H4) ∧ ∀ j k H, W1 j k H →
          (J1.stop j H ∧ Nx H) ∨ (J1.go j H ∧ ∃ Nx1 : Hp → Prop, (∀ H', Nx1 H' → ∃ k', k' < k ∧ W1 (j + 1) k' H') ∧ ∀ x H', J1.yld j H x H' → tG R ts1 tg1 x (wipe σ2 vs1) H' fun σ3 H5 => wipe σ3 vs1 = wipe σ2 vs1 ∧ tT R W0 tst1 σ3 H5 fun b H6 =>
            if b = true then tE R W0 el σ3 H6 fun y H7 => ∃ acc, H7 D = some (.lst acc) ∧ acc.length < sizeLine ∧ Nx1 (upd H7 D (.lst (acc ++ [y]))) else Nx1 H6)
        else Nx H3) := by
  have x0 : Ext α1 H1 (α1 ++ [D]) (upd H1 D (.lst [])) := Ext.new hD
  have rh0 : RH R (α1 ++ [D]) (h1 ++ [.lst []]) (upd H1 D (.lst [])) := rh.new hD ⟨[], upd_same, .nil⟩
  have hD0 : (α1 ++ [D])[h1.length]? = some D := rh.new_at
  refine ⟨fun i m H => ∃ α' h', Ext (α1 ++ [D]) (upd H1 D (.lst [])) α' H ∧ RH R α' h' H ∧ FinE R W α' H σ (lcO src tg tst it1 tg1 tst1 el vs1 (wipeE env vs) h1.length m i h') Q, ⟨most, _, _, .refl, rh0, f.mono x0⟩, ?_⟩
  rintro i m H ⟨α', h', xx, rh', f'⟩
  cases m with
  | zero => exact (show False from f').elim
  | succ m =>
    have rj' := rj α' H h' i (x0.trans xx) rh'
    unfold lcO at f'
    cases es : src h' i with
    | bad => rw [es] at f'; exact (show False from f').elim
    | stop =>
      rw [es] at f' rj'
      exact .inl ⟨rj', f' α' H _ .refl rh' (.ref (xx.get hD0))⟩
    | item d =>
      rw [es] at f' rj'
      dsimp only at f'
      refine .inr ⟨rj'.1, fun H2 => ∃ α2 h2, Ext (α1 ++ [D]) (upd H1 D (.lst [])) α2 H2 ∧ RH R α2 h2 H2 ∧ FinE R W α2 H2 σ (lcO src tg tst it1 tg1 tst1 el vs1 (wipeE env vs) h1.length m (i + 1) h2) Q, fun H2 hn => ⟨m, Nat.lt_succ_self m, hn⟩, fun x H2 hy => ?_⟩
      obtain ⟨x2, rh2, rd2⟩ := rj'.2 x H2 hy
      refine ⟨α', wipeE env vs, h', d, (RelEnv.wipe re vs).ext ((x0.trans xx).trans x2), rh2, rd2, ?_⟩
      cases eg : tg d (wipeE env vs) h' with
      | none => rw [eg] at f'; exact (show False from f').elim
      | some p =>
        obtain ⟨env3, h3⟩ := p
        rw [eg] at f'
        dsimp only at f'
        intro α3 H3 σ3 x3 rh3 re3 k3
        refine ⟨wipe_keep k3 hts, α3, env3, h3, re3, rh3, ?_⟩
        cases et : tst env3 h3 with
        | no => rw [et] at f'; exact (show False from f').elim
        | ex e h4 => rw [et] at f'; exact (show False from f').elim
        | ok b h4 =>
          rw [et] at f'
          intro α4 H4 b' x4 rh4 e4
          have e4 : b = b' := e4
          subst e4
          cases b with
          | false => exact ⟨α4, h4, ((xx.trans x2).trans x3).trans x4, rh4, f'.mono ((x2.trans x3).trans x4)⟩
          | true =>
            dsimp only at f'
            have re4 := re3.ext x4
            refine ⟨α4, env3, h4, re4, rh4, ?_⟩
            cases ei : it1 env3 h4 with
            | no => rw [ei] at f'; exact (show False from f').elim
            | ex e h5 => rw [ei] at f'; exact (show False from f').elim
            | ok src1 h5 =>
              rw [ei] at f'
              dsimp only at f'
              intro α5 H5 J1 x5 rh5 rj5
              have xo : Ext α' H α5 H5 := ((x2.trans x3).trans x4).trans x5
              have xb : Ext (α1 ++ [D]) (upd H1 D (.lst [])) α5 H5 := xx.trans xo
              have re5 := re4.ext x5
              -- the second loop
              refine ⟨fun j k H6 => ∃ α6 h6, Ext α5 H5 α6 H6 ∧ RH R α6 h6 H6 ∧ (match lcL src1 tg1 tst1 el (wipeE env3 vs1) h1.length k j h6 with
                | .ok _ h7 => FinE R W α' H σ (lcO src tg tst it1 tg1 tst1 el vs1 (wipeE env vs) h1.length m (i + 1) h7) Q
                | _ => False), ⟨most, α5, h5, .refl, rh5, ?_⟩, ?_⟩
              · cases el1 : lcL src1 tg1 tst1 el (wipeE env3 vs1) h1.length most 0 h5 with
                | no => rw [el1] at f'; exact (show False from f').elim
                | ex e h7 => rw [el1] at f'; exact (show False from f').elim
                | ok r h7 => rw [el1] at f'; exact f'
              · rintro j k H6 ⟨α6, h6, x6, rh6, g'⟩
                cases k with
                | zero => exact (show False from g').elim
                | succ k =>
                  have rj6 := rj5 α6 H6 h6 j x6 rh6
                  unfold lcL at g'
                  cases es1 : src1 h6 j with
                  | bad => rw [es1] at g'; exact (show False from g').elim
                  | stop =>
                    rw [es1] at g' rj6
                    dsimp only at g'
                    exact .inl ⟨rj6, α6, h6, xb.trans x6, rh6, (show FinE R W α' H σ _ Q from g').mono (xo.trans x6)⟩
                  | item d1 =>
                    rw [es1] at g' rj6
                    dsimp only at g'
                    refine .inr ⟨rj6.1, fun H7 => ∃ α7 h7, Ext α5 H5 α7 H7 ∧ RH R α7 h7 H7 ∧ (match lcL src1 tg1 tst1 el (wipeE env3 vs1) h1.length k (j + 1) h7 with
                      | .ok _ h8 => FinE R W α' H σ (lcO src tg tst it1 tg1 tst1 el vs1 (wipeE env vs) h1.length m (i + 1) h8) Q
                      | _ => False), fun H7 hn => ⟨k, Nat.lt_succ_self k, hn⟩, fun x7 H7 hy7 => ?_⟩
                    obtain ⟨x7', rh7, rd7⟩ := rj6.2 x7 H7 hy7
                    refine ⟨α6, wipeE env3 vs1, h6, d1, (RelEnv.wipe re5 vs1).ext (x6.trans x7'), rh7, rd7, ?_⟩
                    cases eg1 : tg1 d1 (wipeE env3 vs1) h6 with
                    | none => rw [eg1] at g'; exact (show False from g').elim
                    | some p1 =>
                      obtain ⟨env8, h8⟩ := p1
                      rw [eg1] at g'
                      dsimp only at g'
                      intro α8 H8 σ8 x8 rh8 re8 k8
                      refine ⟨wipe_keep k8 hts1, α8, env8, h8, re8, rh8, ?_⟩
                      cases et1 : tst1 env8 h8 with
                      | no => rw [et1] at g'; exact (show False from g').elim
                      | ex e h9 => rw [et1] at g'; exact (show False from g').elim
                      | ok b1 h9 =>
                        rw [et1] at g'
                        intro α9 H9 b1' x9 rh9 e9
                        have e9 : b1 = b1' := e9
                        subst e9
                        cases b1 with
                        | false => exact ⟨α9, h9, ((x6.trans x7').trans x8).trans x9, rh9, g'⟩
                        | true =>
                          dsimp only at g'
                          refine ⟨α9, env8, h9, re8.ext x9, rh9, ?_⟩
                          cases ee : el env8 h9 with
                          | no => rw [ee] at g'; exact (show False from g').elim
                          | ex e ha => rw [ee] at g'; exact (show False from g').elim
                          | ok y ha =>
                            rw [ee] at g'
                            dsimp only at g'
                            intro αa Ha v xa rha rda
                            have x5a : Ext α5 H5 αa Ha := (((x6.trans x7').trans x8).trans x9).trans xa
                            have xD := xb.trans x5a
                            obtain ⟨o, eo, ro⟩ := rha.at (xD.get hD0)
                            rw [eo] at g'
                            cases o with
                            | fro _ => exact (show False from g').elim
                            | dic _ => exact (show False from g').elim
                            | lst acc =>
                              obtain ⟨ws, hw, rw'⟩ := ro
                              dsimp only at g'
                              split at g'
                              · rename_i r hlc heq
                                split at heq
                                · rename_i hl
                                  refine ⟨ws, hw, by rw [← rw'.length, lineEq]; exact hl, ?_⟩
                                  have xw : Ext αa Ha αa (upd Ha D (.lst (ws ++ [v]))) := Ext.write (xD.get hD0) hw trivial
                                  refine ⟨αa, ha.set h1.length (.lst (acc ++ [y])), x5a.trans xw, rha.write (xD.get hD0) hw trivial ⟨ws ++ [v], upd_same, RelDs.ext xw _ _ (rw'.append (.cons rda .nil))⟩, ?_⟩
                                  rw [heq]
                                  exact g'
                                · cases heq
                              · exact g'.elim
theorem de_lc2 {elt tg iter tg1 iter1 : Expr} {ifs ifs1 : List Expr} {scope : Scope} {own : List (Str × Nat)} {vs1 ts ts1 : List Nat} {fi fi1 : Fi} {fg fg1 : Fg} {ft ft1 : Ft} {fe : Fe} (hc : X.calm = true) (hN : X.N.Nodup) (hi : DI X R W tg iter fi) (ok : BlkOk X.N X.env.scope scope own) (hv : ∀ i ∈ vs1, i ∈ own.map (·.2)) (hts : ∀ i ∈ ts, i ∈ own.map (·.2)) (hts1 : ∀ i ∈ ts1, i ∈ vs1)
    (hg : ∀ (s : Shared) (H : Hp) (C : Addr) (cl : List (Str × Addr)) (fp : List Addr), DG (X.blk s H scope (compEnvC scope cl C X.env) fp) R tg ts fg) (ht : ∀ (s : Shared) (H : Hp) (C : Addr) (cl : List (Str × Addr)) (fp : List Addr), DTs (X.blk s H scope (compEnvC scope cl C X.env) fp) R W0 ifs ft)
    (hi1 : ∀ (s : Shared) (H : Hp) (C : Addr) (cl : List (Str × Addr)) (fp : List Addr), DI (X.blk s H scope (compEnvC scope cl C X.env) fp) R W0 tg1 iter1 fi1)
    (hg1 : ∀ (s : Shared) (H : Hp) (C : Addr) (cl : List (Str × Addr)) (fp : List Addr), DG (X.blk s H scope (compEnvC scope cl C X.env) fp) R tg1 ts1 fg1) (ht1 : ∀ (s : Shared) (H : Hp) (C : Addr) (cl : List (Str × Addr)) (fp : List Addr), DTs (X.blk s H scope (compEnvC scope cl C X.env) fp) R W0 ifs1 ft1)
    (he : ∀ (s : Shared) (H : Hp) (C : Addr) (cl : List (Str × Addr)) (fp : List Addr), DE (X.blk s H scope (compEnvC scope cl C X.env) fp) R W0 elt fe) (hs : ∀ x, foldedSetIterable iter X.env x = pure x := by intro _; rfl) (hs1 : ∀ env x, foldedSetIterable iter1 env x = pure x := by intro _ _; rfl) :
    DE X R W (.ListComp elt [⟨tg, iter, ifs, 0⟩, ⟨tg1, iter1, ifs1, 0⟩] scope pos) (eLc2 fi fg ft fi1 fg1 ft1 fe (own.map (·.2)) vs1) := by
  refine ⟨fun pins s σ H Q I h => (pe_lc2 hc hN hi ok hv hg ht hi1 hg1 ht1 he hs hs1).run pins s σ H Q I ?_⟩
  obtain ⟨α, env, hp, re, rh, f⟩ := h
  refine ⟨α, env, hp, re, rh, ?_⟩
  have f : FinE R W α H σ (match fi env hp with
    | .ok src h1 => lcO src fg ft fi1 fg1 ft1 fe vs1 (wipeE env (own.map (·.2))) h1.length most 0 (h1 ++ [.lst []])
    | .ex e h1 => .ex e h1
    | .no => .no) Q := f
  cases er : fi env hp with
  | no => rw [er] at f; exact f
  | ex e h1 => rw [er] at f; exact f
  | ok src h1 =>
    rw [er] at f
    intro α1 H1 J x1 rh1 rj
    exact fun D hD => lc_turns2 (re.ext x1) rh1 rj hts hts1 (f.mono x1) D hD
end
end Mi

set_option Elab.async false
set_option linter.all false
set_option maxRecDepth 100000
set_option maxHeartbeats 2000000
namespace Mi
open PySem PySem.Spec PyProof.Rows L2
/-! ### sorted(xs, key=lambda x: x[::-1]) -/
section
variable {prog : Program} {w : World} {A : Around} {E : Value → Shared → Prop} {s : Shared} {env : PySem.Env} {m : Str → Option Value} {a : Str} {t : Addr} {its : List Value} {p1 p2 p3 p4 pos : Pos} {kk : Nat}
abbrev revX (a : Str) (kk : Nat) (p1 p2 p3 p4 pos : Pos) : Expr := .Subscript (.Name a p1) (.Slice none none (some (.UnaryOp .USub (.Constant (.int 1) kk p2) p3)) p4) pos
theorem rev_eval {Q : Value → Shared → Prop} (hk : env.scope.kind = .function) (hl : env.kindOf a = some .local) (hn : s.heap.Ns env.locals m) (hm : m a = some (.ref t)) (ht : IsTup s.heap t its.toArray) (hz : its.length ≤ sizeLine) (hd : (a == ("__debug__" : Str)) = false)
    (h : ∀ r h' tk, (∀ b o, s.heap.get? b = some o → h'.get? b = some o) → IsTup h' r its.reverse.toArray → Q (.ref r) { s with heap := h', toks := tk }) :
    wpAny (model prog w) A (eval (revX a kk p1 p2 p3 p4 pos) env) Q E s := by
  refine Subscript_ (wpAny_Name (wpAny_loadName_local hk hl hn hm ?_) hd)
  refine wpAny_Slice ?_
  rw [evalPart_none]
  refine wpAny_pure (wpAny_pure ?_)
  rw [evalPart_some]
  refine UnaryOp_ (wpAny_Constant_int (neg_int ?_))
  refine (?_ : wpAny (model prog w) A (subscriptTail (.Name a p1) (.Slice none none (some (.UnaryOp .USub (.Constant (.int 1) kk p2) p3)) p4) (.ref t) (.ref s.heap.objs.size)) Q E _)
  have hn := line63
  have ht5 : IsTup (s.heap.push { cls := .type "slice", data := .fields #[.none, .none, .int (-1) (s.toks + 1)] }) t its.toArray := by
    obtain ⟨o, ho, hr⟩ := ht
    exact ⟨o, Heap.get?_push_of_some _ ho, hr⟩
  refine tail_any (ops := [.ref t, .ref s.heap.objs.size]) ht5.typeIs (PyProof.Rows.slot_tuple_getitem.lookup) ?_ (by with_unfolding_all rfl)
  refine HT2.getItem_tuple_rev ht5 (Heap.IsSliceOf.new _ .none .none (.int (-1) (s.toks + 1))) .none .none (.int (-1) _) ?_ (by rw [List.size_toArray]; omega)
  exact h _ _ _ (fun b o e => Heap.get?_push_of_some _ (Heap.get?_push_of_some _ e)) (IsTup.new _ _)
theorem reads_ints {h : Heap} : ∀ {ns : List Int} {us : List Value}, Vals (ns.map V.int) us → ReadsAll h us (ns.map .int) []
  | [], us, r => by
    cases r
    exact .nil
  | n :: ns, us, r => by
    cases r with
    | cons p q =>
      obtain ⟨t, rfl⟩ := p
      exact .cons (as := []) (.int _ _) (reads_ints q)
theorem lam_key {f c' : Addr} {q : Str} {pr : Arguments} {sc : Scope} {clos : List (Str × Addr)} {pm ctv : Value} {ns : List Int} (hof : s.heap.get? f = some (PySem.W.kla_obj "<lambda>" q pr (revX a kk p1 p2 p3 p4 pos) sc clos pm c' ctv)) (hcr : s.heap.CodeRec (.ref c') q)
    (hroom : A.depth < recursionLimit) (hlim : s.heap.NoLimit) (hkd : sc.kind = .function) (hco : sc.isCoroutine = false) (hgen : sc.isGenerator = false) (hcell : ∀ y ∈ sc.names, y.2 ≠ .cell) (hloc : sc.names.lookup a = some .local) (hd : (a == ("__debug__" : Str)) = false)
    (bnd : bindArgs (PySem.W.kla_fn "<lambda>" q pr (revX a kk p1 p2 p3 p4 pos) sc clos pm (.ref c') ctv) ⟨[.ref t], []⟩ = pure [(a, .ref t)]) (ht : IsTup s.heap t its.toArray) (hz : its.length ≤ sizeLine) (hi : Vals (ns.map V.int) its) :
    wpAny (model prog w) A (call (.ref f) [.ref t]) (PySem.W.KeyPure (.tuple (ns.reverse.map .int)) s) (fun _ _ => False) s := by
  refine wpAny_call ?_
  refine PySem.W.kla_callFunE hroom hof rfl hco hgen rfl hcr ?_
  rw [bnd]
  refine wpAny_pure (wpAny_newFunctionEnv hcell (fun y hy => by rw [List.mem_singleton.mp hy]; exact hloc) (fun h₁ hns hsb => ⟨hlim.fresh _ hsb, ?_⟩) hkd)
  have kp : ∀ b o, s.heap.get? b = some o → h₁.get? b = some o := fun b o e => hsb.extBut b o (Nat.ne_of_lt (Heap.lt_size e)) (Heap.get?_push_of_some _ e)
  refine PySem.W.kla_codeExpr (rev_eval (m := fun x => ([(a, Value.ref t)] : List (Str × Value)).reverse.lookup x) (t := t) (its := its) hkd hloc hns (by simp) ?_ hz hd fun r h' tk keep tup => ?_)
  · obtain ⟨o, ho, hr⟩ := ht
    exact ⟨o, kp _ _ ho, hr⟩
  · refine ⟨h', tk, rfl, fun b o e => keep _ _ (kp _ _ e), ?_⟩
    obtain ⟨o, ho, hc, n, hdt⟩ := tup
    refine .tuple ho hc hdt ?_
    rw [List.toList_toArray, List.map_reverse]
    have := reads_ints (h := h') (ns := ns.reverse) (us := its.reverse) (by rw [List.map_reverse]; exact hi.reverse)
    rwa [List.map_reverse] at this
end
end Mi

set_option Elab.async false
set_option linter.all false
set_option maxRecDepth 100000
set_option maxHeartbeats 2000000
namespace Mi
open PySem PySem.Spec PyProof.Rows L2
/-! ### rows of whole numbers in the order of their ends -/
def leLx : List Int → List Int → Bool
  | [], _ => true
  | _ :: _, [] => false
  | x :: xs, y :: ys => if x = y then leLx xs ys else decide (x < y)
theorem leLx_iff : ∀ xs ys : List Int, leLx xs ys = decide (xs ≤ ys)
  | [], ys => by
    have : ([] : List Int) ≤ ys := List.nil_le ys
    simp [leLx, this]
  | x :: xs, [] => by
    have : ¬ (x :: xs) ≤ ([] : List Int) := by simp
    simp [leLx, this]
  | x :: xs, y :: ys => by
    unfold leLx
    by_cases h : x = y
    · rw [if_pos h, leLx_iff xs ys, h]
      simp [List.cons_le_cons_iff]
    · rw [if_neg h]
      simp [List.cons_le_cons_iff, h]
def leR (a b : List Int) : Bool := leLx a.reverse b.reverse
theorem leR_iff (a b : List Int) : leR a b = decide (a.reverse ≤ b.reverse) := leLx_iff _ _
theorem leR_total (a b : List Int) : leR a b = true ∨ leR b a = true := by
  rw [leR_iff, leR_iff, decide_eq_true_eq, decide_eq_true_eq]
  exact List.le_total _ _
theorem leR_trans {a b c : List Int} (h : leR a b = true) (h' : leR b c = true) : leR a c = true := by
  rw [leR_iff, decide_eq_true_eq] at h h' ⊢
  exact List.le_trans h h'
theorem leR_anti {a b : List Int} (h : leR a b = true) (h' : leR b a = true) : a = b := by
  rw [leR_iff, decide_eq_true_eq] at h h'
  exact List.reverse_inj.mp (List.le_antisymm h h')
def insR (n : List Int) : List (List Int) → List (List Int)
  | [] => [n]
  | m :: r => if leR n m then n :: m :: r else m :: insR n r
def sortR : List (List Int) → List (List Int)
  | [] => []
  | n :: r => insR n (sortR r)
theorem insR_perm (n : List Int) : ∀ l, (insR n l).Perm (n :: l)
  | [] => .refl _
  | m :: r => by
    unfold insR
    split
    · exact .refl _
    · exact ((insR_perm n r).cons m).trans (.swap n m r)
theorem sortR_perm : ∀ l, (sortR l).Perm l
  | [] => .refl _
  | n :: r => (insR_perm n (sortR r)).trans ((sortR_perm r).cons n)
theorem insR_sorted (n : List Int) : ∀ l, l.Pairwise (fun a b => leR a b = true) → (insR n l).Pairwise (fun a b => leR a b = true)
  | [], _ => by simp [insR]
  | m :: r, h => by
    rw [List.pairwise_cons] at h
    unfold insR
    split
    · rename_i hnm
      rw [List.pairwise_cons]
      refine ⟨fun y hy => ?_, List.pairwise_cons.mpr h⟩
      rcases List.mem_cons.mp hy with rfl | hy
      · exact hnm
      · exact leR_trans hnm (h.1 y hy)
    · rename_i hnm
      rw [List.pairwise_cons]
      refine ⟨fun y hy => ?_, insR_sorted n r h.2⟩
      rcases List.mem_cons.mp ((insR_perm n r).mem_iff.mp hy) with rfl | hy
      · exact (leR_total m y).resolve_right hnm
      · exact h.1 y hy
theorem sortR_sorted : ∀ l, (sortR l).Pairwise (fun a b => leR a b = true)
  | [] => .nil
  | n :: r => insR_sorted n _ (sortR_sorted r)
theorem sortR_of {l m : List (List Int)} (p : l.Perm m) (h : l.Pairwise (fun a b => leR a b = true)) : l = sortR m := by
  refine List.Perm.eq_of_pairwise (le := fun a b => leR a b = true) (fun a b _ _ h1 h2 => leR_anti h1 h2) h (sortR_sorted m) (p.trans (sortR_perm m).symm)
theorem dataLe_tups {β : Type} (x : β → List Int) : PySem.W.dataLe false (fun b => .tuple ((x b).map .int)) = fun p q => decide (x p ≤ x q) := by
  funext p q
  show (!PySem.W.dataLt (.tuple ((x q).map .int)) (.tuple ((x p).map .int))) = _
  rw [PySem.W.dataLt_tuple]
  show (!PySem.W.rowLt ((x q).map .int) ((x p).map .int)) = _
  rw [PySem.W.dataLt_ints]
  by_cases h : x q < x p
  · have h' : ¬ x p ≤ x q := fun r => List.not_lt.mpr r h
    simp [h, h']
  · have h' : x p ≤ x q := List.not_lt.mp h
    simp [h, h']
def tupI (ns : List Int) : D := .tup (ns.map .int)
def tupsI : List D → Option (List (List Int))
  | [] => some []
  | .tup xs :: r => (match intsD xs with
    | some ns => (match tupsI r with
      | some l => some (ns :: l)
      | none => none)
    | none => none)
  | _ :: _ => none
theorem intsD_map : ∀ ns : List Int, intsD (ns.map .int) = some ns
  | [] => rfl
  | n :: r => by
    show (match intsD (r.map D.int) with | some l => some (n :: l) | none => none) = _
    rw [intsD_map r]
theorem tupsI_map : ∀ ts : List (List Int), tupsI (ts.map tupI) = some ts
  | [] => rfl
  | t :: r => by
    show (match intsD (t.map D.int) with | some ns => (match tupsI (r.map tupI) with | some l => some (ns :: l) | none => none) | none => none) = _
    rw [intsD_map t, tupsI_map r]
theorem intsD_inv : ∀ {xs : List D} {ns : List Int}, intsD xs = some ns → xs = ns.map .int
  | [], ns, e => by cases e; rfl
  | x :: r, ns, e => by
    cases x with
    | int i =>
      unfold intsD at e
      cases q : intsD r with
      | none => rw [q] at e; cases e
      | some l =>
        rw [q] at e
        cases e
        rw [intsD_inv q]
        rfl
    | _ => cases e
theorem tupsI_inv : ∀ {xs : List D} {ts : List (List Int)}, tupsI xs = some ts → xs = ts.map tupI
  | [], ts, e => by cases e; rfl
  | x :: r, ts, e => by
    cases x with
    | tup ys =>
      unfold tupsI at e
      cases q : intsD ys with
      | none => rw [q] at e; cases e
      | some ns =>
        rw [q] at e
        dsimp only at e
        cases q2 : tupsI r with
        | none => rw [q2] at e; cases e
        | some l =>
          rw [q2] at e
          cases e
          rw [tupsI_inv q2, intsD_inv q]
          rfl
    | _ => cases e
def gSortR : D → Hd → Res D := fun x h => match lstD x h with
  | some xs => (match tupsI xs with
    | some ts => if (ts.all fun t => !t.isEmpty) = true then .ok (.ref h.length) (h ++ [.lst ((sortR ts).map tupI)]) else .no
    | none => .no)
  | none => .no
def gSortR1 : List D → Hd → Res D
  | [x], h => gSortR x h
  | _, _ => .no
end Mi

set_option Elab.async false
set_option linter.all false
set_option maxRecDepth 100000
set_option maxHeartbeats 2000000
namespace Mi
open PySem PySem.Spec PyProof.Rows L2
section
variable {X : Cx} {pins : List (Addr × Obj)} {σ : L2.St} {H : Hp} {s : Shared}
/-- an item of the list that is sorted -/
def ItR (K : PySem.W.Frag) (H : Hp) (v : Value) (b : V × List Int) : Prop := RelV b.1 v ∧ ∃ t, b.1 = .ref t ∧ SqT K H t (b.2.map .int)
theorem items_each {R : Rx} {α : List Addr} {H : Hp} : ∀ {ts : List (List Int)} {vs : List V} {us : List Value}, RelDs R α H (ts.map tupI) vs → Vals vs us → PySem.W.EachIs (ItR R.K H) us (vs.zip ts)
  | [], vs, us, r, v => by
    have := r.nil_inv
    subst this
    cases v
    exact .nil
  | t :: ts, vs, us, r, v => by
    obtain ⟨x, xs, rfl, h1, h2⟩ := RelDs.cons_inv (xs := ts.map tupI) r
    cases v with
    | cons p q =>
      obtain ⟨a, ws, e, sq, r2⟩ := RelD.tup_inv (xs := t.map .int) h1
      refine .cons ⟨p, a, e, ?_⟩ (items_each h2 q)
      rw [intsD_rel (intsD_map t) r2] at sq
      exact sq
theorem each_vals {K : PySem.W.Frag} {H : Hp} : ∀ {us : List Value} {bs : List (V × List Int)}, PySem.W.EachIs (ItR K H) us bs → Vals (bs.map (·.1)) us
  | _, _, .nil => .nil
  | _, _, .cons h t => .cons h.1 (each_vals t)
theorem each_rel {R : Rx} {α : List Addr} {H : Hp} : ∀ {us : List Value} {bs : List (V × List Int)}, PySem.W.EachIs (ItR R.K H) us bs → RelDs R α H ((bs.map (·.2)).map tupI) (bs.map (·.1))
  | _, _, .nil => .nil
  | _, _, .cons h t => by
    obtain ⟨_, a, e, sq⟩ := h
    refine .cons ?_ (each_rel t)
    dsimp only
    rw [e]
    exact .tup sq (rel_ints _)
theorem merge_snd {bs : List (V × List Int)} : (bs.mergeSort (PySem.W.dataLe false (fun b : V × List Int => .tuple ((b.2.reverse).map .int)))).map (·.2) = sortR (bs.map (·.2)) := by
  rw [dataLe_tups (fun b : V × List Int => b.2.reverse)]
  refine sortR_of ((List.mergeSort_perm _ _).map _) ?_
  rw [List.pairwise_map]
  have h := List.pairwise_mergeSort (le := fun p q : V × List Int => decide (p.2.reverse ≤ q.2.reverse)) (fun a b c h1 h2 => ?_) (fun a b => ?_) bs
  · refine h.imp fun {a b} q => ?_
    rw [leR_iff]
    exact q
  · rw [decide_eq_true_eq] at h1 h2 ⊢
    exact List.le_trans h1 h2
  · rw [Bool.or_eq_true, decide_eq_true_eq, decide_eq_true_eq]
    exact List.le_total _ _
theorem depth_tupI (t : List Int) : (PyData.tuple (t.map .int)).depth = 1 := by
  have := PySem.W.depth_ints t
  simp [PyData.depth, this]
/-- the call -/
theorem sortR_run {R : Rx} {α : List Addr} {f c' : Addr} {q : Str} {pr : Arguments} {sc : Scope} {clos : List (Str × Addr)} {pm ctv : Value} {a : Str} {kk : Nat} {p1 p2 p3 p4 pos : Pos} {ts : List (List Int)} {vs : List V} {l : Addr} {Q : VK}
    (I : Inv X pins σ H s) (hK : R.K = X.K) (rl : RelDs R α H (ts.map tupI) vs) (hl : SqL X.K H l vs) (hne : (ts.all fun t => !t.isEmpty) = true)
    (hof : s.heap.get? f = some (PySem.W.kla_obj "<lambda>" q pr (revX a kk p1 p2 p3 p4 pos) sc clos pm c' ctv)) (hco : H c' = some (LamX.CodeO c' q))
    (hroom : X.A.depth < recursionLimit) (hu : X.A.units + 64 < cLine) (hkd : sc.kind = .function) (hcor : sc.isCoroutine = false) (hgen : sc.isGenerator = false) (hcell : ∀ y ∈ sc.names, y.2 ≠ .cell) (hloc : sc.names.lookup a = some .local) (hd : (a == ("__debug__" : Str)) = false)
    (bnd : ∀ t, bindArgs (PySem.W.kla_fn "<lambda>" q pr (revX a kk p1 p2 p3 p4 pos) sc clos pm (.ref c') ctv) ⟨[.ref t], []⟩ = pure [(a, .ref t)])
    (h : ∀ (ws : List V) (p : Addr), H p = none → RelDs R α H ((sortR ts).map tupI) ws → Q (.ref p) (upd H p (.lst ws))) :
    wpAny (model X.prog X.w) X.A (call (.builtin "sorted") [.ref l] [(Str.ofString "key", .ref f)]) (EP X pins σ Q) X.xe s := by
  obtain ⟨its, rv, hll, hz⟩ := I.list hl
  have er : PySem.W.EachIs (ItR R.K H) its (vs.zip ts) := items_each rl rv
  have hlen : (ts.map tupI).length = vs.length := rl.length
  rw [List.length_map] at hlen
  have hsnd : (vs.zip ts).map (·.2) = ts := by rw [List.map_snd_zip (by omega)]
  have hbl : (vs.zip ts).length = vs.length := by rw [List.length_zip]; omega
  rw [hK] at er
  refine PySem.W.sorted_key_data (b := false) (R := ItR X.K H) (fun b : V × List Int => .tuple (b.2.reverse.map .int)) hll.isList er (PySem.W.AllAlike.of fun b b' => ?_) (.inl fun d hd => ?_) (by rw [hbl]; exact hz) (fun x _ => ?_) (PyProof.Rows.ksk_s1 _ _) (fun _ => PyProof.Rows.ksk_l1 _ _) (fun _ => PyProof.Rows.ksk_t1 _ _)
    (fun v x hR hx hh tk kp => ?_) fun out c h' tk kp fr hD hol eo => ?_
  · simp only [PySem.W.alike]
    exact PySem.W.alike_ints _ _
  · obtain ⟨b, hb, rfl⟩ := List.mem_map.mp hd
    have hb2 : b.2 ∈ ts := (List.of_mem_zip hb).2
    have ne := List.all_eq_true.mp hne _ hb2
    cases e : b.2.reverse with
    | nil => rw [List.reverse_eq_nil_iff] at e; rw [e] at ne; cases ne
    | cons y r => exact ⟨.int y, r.map .int, rfl⟩
  · rw [depth_tupI]
    omega
  · obtain ⟨rv1, t, et, sq⟩ := hR
    rw [et] at rv1
    have ev : v = .ref t := rv1
    subst ev
    have I2 : Inv X pins σ H { s with heap := hh, toks := tk } := I.kept kp
    obtain ⟨its2, rv2, ht2, hz2⟩ := I2.tuple sq
    obtain ⟨⟨oc, vs', tt, hoc, hdc, hvc⟩, _, _⟩ := I2.hok c' _ hco
    refine lam_key (s := { s with heap := hh, toks := tk }) (A := X.A.in1.in1) (kp _ _ hof) ⟨c', oc, vs', tt, rfl, hoc, hdc, hvc⟩ hroom I2.nolimit hkd hcor hgen hcell hloc hd (bnd t) ht2 (by rw [← rv2.length]; exact hz2) rv2
  · have hml : ((vs.zip ts).mergeSort (PySem.W.dataLe false (fun b : V × List Int => .tuple ((b.2.reverse).map .int)))).length = vs.length := by rw [List.length_mergeSort, hbl]
    have rel : RelDs R α H (((((vs.zip ts).mergeSort (PySem.W.dataLe false (fun b : V × List Int => .tuple ((b.2.reverse).map .int)))).map (·.2)).map tupI)) (((vs.zip ts).mergeSort (PySem.W.dataLe false (fun b : V × List Int => .tuple ((b.2.reverse).map .int)))).map (·.1)) := by
      rw [← hK] at eo
      exact each_rel eo
    rw [merge_snd, hsnd] at rel
    refine ⟨.ref _, upd H (s.heap.objs.size + 1) (.lst _), I.laid (t' := tk) kp (Nat.le_succ _) ⟨?_, _, c, each_vals eo, hD⟩, rfl, h _ _ (I.hok.fresh (Nat.le_succ _)) rel⟩
    rw [List.length_map, hml]
    exact hz
end
/-- a lambda with one parameter that is made and called at once -/
structure LamK (sc scope : Scope) (a : Str) : Prop where
  kind : scope.kind = .function
  co : scope.isCoroutine = false
  gen : scope.isGenerator = false
  own : ∀ y ∈ scope.names, y.2 ≠ .cell
  par : scope.names.lookup a = some .local
  free : ∀ y ∈ scope.names, y.2 = .free → sc.names.lookup y.1 = some .cell ∨ sc.names.lookup y.1 = some .free
def lamKB (sc scope : Scope) (a : Str) : Bool :=
  decide (scope.kind = .function) && !scope.isCoroutine && !scope.isGenerator && (scope.names.all fun y => !decide (y.2 = .cell) && (!decide (y.2 = .free) || decide (sc.names.lookup y.1 = some .cell) || decide (sc.names.lookup y.1 = some .free))) && decide (scope.names.lookup a = some .local)
theorem lamK_by {sc scope : Scope} {a : Str} (h : lamKB sc scope a = true) : LamK sc scope a := by
  unfold lamKB at h
  simp only [Bool.and_eq_true, Bool.or_eq_true, Bool.not_eq_true', decide_eq_true_eq, decide_eq_false_iff_not, List.all_eq_true] at h
  obtain ⟨⟨⟨⟨h1, h2⟩, h3⟩, h4⟩, h5⟩ := h
  refine ⟨h1, h2, h3, fun y hy => (h4 y hy).1, h5, fun y hy e => ?_⟩
  rcases (h4 y hy).2 with (z | z) | z
  · exact absurd e z
  · exact .inl z
  · exact .inr z
theorem LamK.has {X : Cx} {scope : Scope} {a : Str} (L : LamK X.env.scope scope a) (ok : X.Ok) : ∀ y ∈ scope.names, y.2 = .free → ∃ c, X.env.cells.lookup y.1 = some c := fun y hy e => by
  rcases L.free y hy e with k | k
  · exact ok.has _ (.inl k)
  · exact ok.has _ (.inr k)
section
variable {X : Cx} {W : WX} {Tt : List (Addr × Str)} {x a z : Str} {c P : Addr} {pr : Arguments} {sc : Scope} {e : Expr} {fe : Fe} {p lpos kpos p1 p2 p3 p4 p5 pos : Pos} {kk k : Nat}
theorem de_sortR {fa : Fa} (ha : DA X (rx X.K X.mg Tt) W [e] fa) (hr : RoomG k X.A) (hg : Gl X "sorted") (hm : X.mg "sorted" = none)
    (TB : LamX.TabB X.base X.mg c P) (hcode : X.env.code = .ref c) (hmT : (P, X.env.qual ++ "<lambda>") ∈ Tt) (hut : ∀ p ∈ Tt, p.1 = P → p.2 = X.env.qual ++ "<lambda>") (L : LamK X.env.scope sc a) (hdef : defaultsOf pr X.env = ([], []) := by rfl)
    (bnd : ∀ (q : Str) (cl : List (Str × Addr)) (pm cv ctv : Value) (t : Addr), bindArgs (PySem.W.kla_fn "<lambda>" q pr (revX a kk p1 p2 p3 p4 p5) sc cl pm cv ctv) ⟨[.ref t], []⟩ = pure [(a, .ref t)] := by intros; rfl) (hd : (a == ("__debug__" : Str)) = false := by decide)
    (he1 : backTo pos (starEach [e] X.env) = (false, eval e X.env) :: backTo pos (starEach [] X.env) := by rfl) :
    DE X (rx X.K X.mg Tt) W (.Call (.Name "sorted" p) [e] [⟨some "key", .Lambda pr (revX a kk p1 p2 p3 p4 p5) sc lpos, kpos⟩] pos) (eCall gSortR1 fa) := by
  refine ⟨fun pins s σ H Q I want => ?_⟩
  obtain ⟨α, env, hp, re, rh, fi⟩ := want
  refine wpAny_Call_Name_kw (ld_blt I hg hm (by rfl) ?_ (by decide) (by decide))
  refine PyProof.Rows.callWith_kw (thn (ha.run pos pins s σ H (fun vs H1 => ∃ ds α1 h1, fa env hp = .ok ds h1 ∧ Ext α H α1 H1 ∧ RH (rx X.K X.mg Tt) α1 h1 H1 ∧ RelDs (rx X.K X.mg Tt) α1 H1 ds vs ∧ FinE (rx X.K X.mg Tt) W α1 H1 σ (gSortR1 ds h1) Q) I ⟨α, env, hp, re, rh, Fin.split (g := gSortR1) fi⟩) fun us s1 got => ?_) he1 (by rw [he1]; rfl) (by rfl) (by rfl)
  obtain ⟨vs, H1, I1, rv, ds, α1, h1, _, x1, rh1, rd, f1⟩ := got
  cases ds with
  | nil => exact (show False from f1).elim
  | cons d t =>
    cases t with
    | cons _ _ => exact (show False from f1).elim
    | nil =>
      obtain ⟨v, rfl, r1⟩ := rd.one
      obtain ⟨u, rfl, ru⟩ := rv.one
      have f2 : FinE (rx X.K X.mg Tt) W α1 H1 σ (gSortR d h1) Q := f1
      unfold gSortR at f2
      cases e1 : lstD d h1 with
      | none => rw [e1] at f2; exact f2.elim
      | some xs =>
        rw [e1] at f2
        dsimp only at f2
        cases e2 : tupsI xs with
        | none => rw [e2] at f2; exact f2.elim
        | some ts =>
          rw [e2] at f2
          dsimp only at f2
          split at f2
          · rename_i hne
            show wpAny _ _ (evalAll ((do let v ← eval (.Lambda pr (revX a kk p1 p2 p3 p4 p5) sc lpos) X.env; standAt pos; pure v) :: [])) _ _ s1
            refine wpAny_evalAll_cons (wpAny_bind (LamX.lam_make2 I1 TB hcode hmT hut rh1.tab hdef (L.has I1.ok) fun f c' pm ctv H2 s2 I2 eN T2 hf hfn hfr hco => wpAny_bind (wpAny_standAt (wpAny_pure (wpAny_evalAll_nil ?_)))))
            obtain ⟨x2, rh2⟩ := rh1.extN eN T2
            obtain ⟨l, ws, rfl, sq, rl⟩ := lstD_of rh2 (RelD.ext x2 _ _ r1) e1
            obtain rfl : u = .ref l := ru
            rw [tupsI_inv e2] at rl
            refine sortR_run (R := rx X.K X.mg Tt) I2 rfl rl sq hne hf hco (by have := hr.rm.dp; omega) hr.u64 L.kind L.co L.gen L.own L.par hd (fun t => bnd _ _ _ _ _ t) fun ws2 p hp2 rel => ?_
            have nl := new_lst rh2 rel hp2
            exact f2 _ _ _ (x2.trans nl.1) nl.2.1 nl.2.2
          · exact f2.elim
end
end Mi

set_option Elab.async false
set_option linter.all false
set_option maxRecDepth 100000
set_option maxHeartbeats 1000000
namespace Mi
open PySem PySem.Spec PyProof.Rows L2
/-! ### the loop over the cells, and the script is still there -/
theorem head_src2 {ns : List Int} {m : Nat} {M : Int} {env : En} (hM : M = (m : Nat)) (hm : m ≤ 100) (v0 : ∀ h, eVar 0 env h = .ok (.ref 0) h) :
    ∃ h3, iEnm (eOp gAdd (eSl (eVar 0) oNone (oSome (eC (.int M)))) (eLst (aCons (eCall gSum (aCons (eVar 0) aNil)) aNil))) env [.fro (ns.map .int)] = .ok (enmS (liveS 3)) h3 ∧ h3[3]? = some (.lst ((ns.take m ++ [ns.sum]).map .int)) ∧ h3[0]? = some (.fro (ns.map .int)) := by
  subst hM
  have c1 : eSl (eVar 0) oNone (oSome (eC (.int (m : Nat)))) env [.fro (ns.map .int)] = .ok (.ref 1) [.fro (ns.map .int), .lst ((ns.take m).map .int)] := by
    show (eVar 0 env _).bind _ = _
    rw [v0]
    show Res.ok (D.ref 1) ([Ob.fro (ns.map .int)] ++ [Ob.lst (cutD (ns.map D.int) none (some (m : Nat)))]) = _
    rw [cut_take]
    rfl
  have c2 : eLst (aCons (eCall gSum (aCons (eVar 0) aNil)) aNil) env [.fro (ns.map .int), .lst ((ns.take m).map .int)] = .ok (.ref 2) [.fro (ns.map .int), .lst ((ns.take m).map .int), .lst [.int ns.sum]] := by
    have s1 : gSum [.ref 0] [.fro (ns.map .int), .lst ((ns.take m).map .int)] = .ok (.int ns.sum) [.fro (ns.map .int), .lst ((ns.take m).map .int)] := by
      show (match intsD (ns.map D.int) with
        | some ns => Res.ok (D.int ns.sum) _
        | none => .no) = _
      rw [ints_map]
    exact (lst_ok (cons_ok ((call_ok (ds := [.ref 0]) (cons_ok (v0 _) rfl)).trans s1) rfl) (by simp)).trans rfl
  have c3 : eOp gAdd (eSl (eVar 0) oNone (oSome (eC (.int (m : Nat))))) (eLst (aCons (eCall gSum (aCons (eVar 0) aNil)) aNil)) env [.fro (ns.map .int)] = .ok (.ref 3) [.fro (ns.map .int), .lst ((ns.take m).map .int), .lst [.int ns.sum], .lst ((ns.take m).map .int ++ [.int ns.sum])] :=
    (op_ok c1 c2).trans (cat_lst (a := 1) (b := 2) (xs := (ns.take m).map .int) (ys := [.int ns.sum]) rfl rfl (by rw [List.length_map, List.length_take]; show _ + 1 ≤ 1000; omega))
  refine ⟨[.fro (ns.map .int), .lst ((ns.take m).map .int), .lst [.int ns.sum], .lst ((ns.take m).map .int ++ [.int ns.sum])], ?_, ?_, rfl⟩
  · show (eOp gAdd _ _ _ _).bind _ = _
    rw [c3]
    rfl
  · rw [List.map_append]
    rfl
theorem head_loop2 {ns : List Int} {m : Nat} {M : Int} {env : En} {tg : Fg} {body : Fs} (J : En → Prop) (hM : M = (m : Nat)) (hm : m ≤ 100) (v0 : ∀ h, eVar 0 env h = .ok (.ref 0) h) (j0 : J env)
    (turn : ∀ (i : Nat) (cell : Int) env1 h1, i ≤ m → J env1 → ∃ env2 h2, stepS tg body (.tup [.int (i : Nat), .int cell]) env1 h1 = .nx env2 h2 ∧ J env2 ∧ Kp [] h1 h2) :
    ∃ env' h', sFor (iEnm (eOp gAdd (eSl (eVar 0) oNone (oSome (eC (.int M)))) (eLst (aCons (eCall gSum (aCons (eVar 0) aNil)) aNil)))) tg body env [.fro (ns.map .int)] = .nx env' h' ∧ J env' ∧ h'[0]? = some (.fro (ns.map .int)) := by
  obtain ⟨h3, c4, e3, z3⟩ := head_src2 (ns := ns) hM hm v0
  generalize hcs : ns.take m ++ [ns.sum] = cs at e3
  have hl : cs.length ≤ m + 1 := by
    rw [← hcs, List.length_append, List.length_take]
    show _ + 1 ≤ m + 1
    omega
  have key := for_inv (src := enmS (liveS 3)) (tg := tg) (body := body) (env := env) (h := h3) cs.length (fun i => .tup [.int (i : Nat), .int (cs.getD i 0)])
    (fun i env1 h1 => J env1 ∧ h1[3]? = some (.lst (cs.map .int)) ∧ h1[0]? = some (.fro (ns.map .int))) ⟨j0, e3, z3⟩ ?_ ?_ (by rw [most_eq]; omega)
  · obtain ⟨env', h', e, j, _, z⟩ := key
    exact ⟨env', h', (sFor_ok c4).trans e, j, z⟩
  · rintro i env1 h1 hi ⟨j, q, z⟩
    refine ⟨?_, ?_⟩
    · refine enm_item ?_
      rw [live_item (.inl q) (by simpa using hi), List.getD_eq_getElem?_getD, List.getElem?_map, List.getElem?_eq_getElem hi, List.getD_eq_getElem?_getD, List.getElem?_eq_getElem hi]
      rfl
    · obtain ⟨env2, h2, e2, j2, k2⟩ := turn i (cs.getD i 0) env1 h1 (by omega) j
      exact ⟨env2, h2, e2, j2, k2.at_ _ _ (by simp) q, k2.at_ _ _ (by simp) z⟩
  · rintro env1 h1 ⟨_, q, _⟩
    refine enm_stop ?_
    have := live_stop (h := h1) (.inl q)
    rwa [List.length_map] at this

/-! ### a plain thing is what it is -/
def selfOk (x : D) : Bool := sameD x x && (match x, toP maxP [] x with
  | .tup _, some d => SeqAt.shaped d && PyData.eqv d d
  | _, _ => false)
theorem self_eq {x : D} (q : selfOk x = true) (h : Hd) (k : Bool → Bool) : eqB x x h k = .ok (.bl (k true)) h := by
  unfold selfOk at q
  obtain ⟨q1, q2⟩ := He.ba q
  cases x with
  | tup xs =>
    cases e : toP maxP [] (.tup xs) with
    | none => rw [e] at q2; cases q2
    | some d =>
      rw [e] at q2
      obtain ⟨q2, q3⟩ := He.ba q2
      have e2 : toP maxP h (.tup xs) = some d := (toP_same (h := h) (h' := []) q1).trans e
      rw [eqB_tup, deep_ok e2 e2 q2 q2, q3]
  | _ => cases q2
theorem ne_self {fa fb : Fe} {x : D} {env : En} {h h1 h2 : Hd} (q : selfOk x = true) (ea : fa env h = .ok x h1) (eb : fb env h1 = .ok x h2) : tOf (eOp gNe fa fb) env h = .ok false h2 := tOf_ok ((op_ok ea eb).trans (self_eq q h2 not))
def selfL (xs : List D) : Bool := samesD xs xs && (match toP maxP [.lst xs] (.ref 0) with
  | some d => SeqAt.shaped d && PyData.eqv d d
  | none => false)
theorem toP_lst_any {n : Nat} {h h' : Hd} {a b : Nat} {xs : List D} (q : samesD xs xs = true) (e : h[a]? = some (.lst xs)) (e2 : h'[b]? = some (.lst xs)) : toP n h (.ref a) = toP n h' (.ref b) := by
  cases n with
  | zero => rfl
  | succ n =>
    unfold toP
    rw [e, e2]
    dsimp only
    rw [mapM_same (fun q => toP_same q) q]
theorem ne_lists {fa fb : Fe} {a b : Nat} {xs : List D} {env : En} {h h1 h2 : Hd} (q : selfL xs = true) (ea : fa env h = .ok (.ref a) h1) (eb : fb env h1 = .ok (.ref b) h2) (xa : h2[a]? = some (.lst xs)) (xb : h2[b]? = some (.lst xs)) : tOf (eOp gNe fa fb) env h = .ok false h2 := by
  unfold selfL at q
  obtain ⟨q1, q2⟩ := He.ba q
  cases e : toP maxP [.lst xs] (.ref 0) with
  | none => rw [e] at q2; cases q2
  | some d =>
    rw [e] at q2
    obtain ⟨q2, q3⟩ := He.ba q2
    refine tOf_ok ((op_ok ea eb).trans ?_)
    have e2 : toP maxP h2 (.ref a) = some d := (toP_lst_any (h' := [.lst xs]) (b := 0) q1 xa rfl).trans e
    have e3 : toP maxP h2 (.ref b) = some d := (toP_lst_any (h' := [.lst xs]) (b := 0) q1 xb rfl).trans e
    exact (deep_ok (k := not) e2 e3 q2 q2).trans (by rw [q3]; rfl)
end Mi

set_option Elab.async false
set_option linter.all false
set_option maxRecDepth 100000
set_option maxHeartbeats 4000000
namespace Lw
open PySem PySem.Spec PyProof.Rows L2 Mi
abbrev Pg : Program := PySem.Challenge.pw_alwayswhole_k83_whole_triples_and_their
def top (i : Nat) : Stmt := PySem.Challenge.pw_alwayswhole_k83_whole_triples_and_their.main.body.getD i (.Pass ⟨0, 0, 0, 0⟩)
def cBody (s : Stmt) : List Stmt := match s with
  | .ClassDef (body := b) .. => b
  | _ => []
/-! ### _law_mixed -/
abbrev st__law_mixed : Stmt := top 34
def N__law_mixed : List Str := ["cell", "k", "number"]
def p__law_mixed : List Str := ["cell", "k"]
theorem sc__law_mixed : FnScope N__law_mixed p__law_mixed (defScope st__law_mixed) := ⟨rfl, rfl, rfl, by decide +kernel, rfl, by decide +kernel, by decide +kernel⟩
def d__law_mixed : He.DefD := ⟨("_law_mixed", none), "_law_mixed", "_law_mixed", defArgs st__law_mixed, defBody st__law_mixed, defScope st__law_mixed, [], []⟩
/-! ### _law_digit -/
abbrev st__law_digit : Stmt := top 36
def N__law_digit : List Str := ["state", "below", "j", "found"]
def p__law_digit : List Str := ["state", "below"]
theorem sc__law_digit : FnScope N__law_digit p__law_digit (defScope st__law_digit) := ⟨rfl, rfl, rfl, by decide +kernel, rfl, by decide +kernel, by decide +kernel⟩
def d__law_digit : He.DefD := ⟨("_law_digit", none), "_law_digit", "_law_digit", defArgs st__law_digit, defBody st__law_digit, defScope st__law_digit, [], []⟩
/-! ### _law_triple -/
abbrev st__law_triple : Stmt := top 39
def N__law_triple : List Str := ["path", "here", "way", "least", "middle", "most"]
def p__law_triple : List Str := ["path"]
theorem sc__law_triple : FnScope N__law_triple p__law_triple (defScope st__law_triple) := ⟨rfl, rfl, rfl, by decide +kernel, rfl, by decide +kernel, by decide +kernel⟩
def d__law_triple : He.DefD := ⟨("_law_triple", none), "_law_triple", "_law_triple", defArgs st__law_triple, defBody st__law_triple, defScope st__law_triple, [], []⟩
/-! ### is_whole -/
abbrev st_is_whole : Stmt := top 9
def N_is_whole : List Str := ["thing", "least", "most"]
def p_is_whole : List Str := ["thing", "least", "most"]
theorem sc_is_whole : FnScope N_is_whole p_is_whole (defScope st_is_whole) := ⟨rfl, rfl, rfl, by decide +kernel, rfl, by decide +kernel, by decide +kernel⟩
def d_is_whole : He.DefD := ⟨("is_whole", none), "is_whole", "is_whole", defArgs st_is_whole, defBody st_is_whole, defScope st_is_whole, [], []⟩
/-! ### are_numbers -/
abbrev st_are_numbers : Stmt := top 15
def N_are_numbers : List Str := ["thing", "part"]
def p_are_numbers : List Str := ["thing"]
theorem sc_are_numbers : FnScope N_are_numbers p_are_numbers (defScope st_are_numbers) := ⟨rfl, rfl, rfl, by decide +kernel, rfl, by decide +kernel, by decide +kernel⟩
def d_are_numbers : He.DefD := ⟨("are_numbers", none), "are_numbers", "are_numbers", defArgs st_are_numbers, defBody st_are_numbers, defScope st_are_numbers, [], []⟩
/-! ### does_solve -/
abbrev st_does_solve : Stmt := top 14
def N_does_solve : List Str := ["equation", "numbers", "total", "part", "number"]
def p_does_solve : List Str := ["equation", "numbers"]
theorem sc_does_solve : FnScope N_does_solve p_does_solve (defScope st_does_solve) := ⟨rfl, rfl, rfl, by decide +kernel, rfl, by decide +kernel, by decide +kernel⟩
def d_does_solve : He.DefD := ⟨("does_solve", none), "does_solve", "does_solve", defArgs st_does_solve, defBody st_does_solve, defScope st_does_solve, [], []⟩
/-! ### wrong_triple -/
abbrev st_wrong_triple : Stmt := top 22
def N_wrong_triple : List Str := ["thing"]
def p_wrong_triple : List Str := ["thing"]
theorem sc_wrong_triple : FnScope N_wrong_triple p_wrong_triple (defScope st_wrong_triple) := ⟨rfl, rfl, rfl, by decide +kernel, rfl, by decide +kernel, by decide +kernel⟩
def d_wrong_triple : He.DefD := ⟨("wrong_triple", none), "wrong_triple", "wrong_triple", defArgs st_wrong_triple, defBody st_wrong_triple, defScope st_wrong_triple, [], []⟩
/-! ### need_triple -/
abbrev st_need_triple : Stmt := top 23
def N_need_triple : List Str := ["triple", "wrong"]
def p_need_triple : List Str := ["triple"]
theorem sc_need_triple : FnScope N_need_triple p_need_triple (defScope st_need_triple) := ⟨rfl, rfl, rfl, by decide +kernel, rfl, by decide +kernel, by decide +kernel⟩
def d_need_triple : He.DefD := ⟨("need_triple", none), "need_triple", "need_triple", defArgs st_need_triple, defBody st_need_triple, defScope st_need_triple, [], []⟩
/-! ### need_high -/
abbrev st_need_high : Stmt := top 27
def N_need_high : List Str := ["triple"]
def p_need_high : List Str := ["triple"]
theorem sc_need_high : FnScope N_need_high p_need_high (defScope st_need_high) := ⟨rfl, rfl, rfl, by decide +kernel, rfl, by decide +kernel, by decide +kernel⟩
def d_need_high : He.DefD := ⟨("need_high", none), "need_high", "need_high", defArgs st_need_high, defBody st_need_high, defScope st_need_high, [], []⟩
/-! ### own_path -/
abbrev st_own_path : Stmt := top 26
def N_own_path : List Str := ["triple", "found", "least", "middle", "most", "rest"]
def p_own_path : List Str := ["triple"]
theorem sc_own_path : FnScope N_own_path p_own_path (defScope st_own_path) := ⟨rfl, rfl, rfl, by decide +kernel, rfl, by decide +kernel, by decide +kernel⟩
def d_own_path : He.DefD := ⟨("own_path", none), "own_path", "own_path", defArgs st_own_path, defBody st_own_path, defScope st_own_path, [], []⟩
/-! ### path_of -/
abbrev st_path_of : Stmt := top 28
def N_path_of : List Str := ["triple"]
def p_path_of : List Str := ["triple"]
theorem sc_path_of : FnScope N_path_of p_path_of (defScope st_path_of) := ⟨rfl, rfl, rfl, by decide +kernel, rfl, by decide +kernel, by decide +kernel⟩
def d_path_of : He.DefD := ⟨("path_of", none), "path_of", "path_of", defArgs st_path_of, defBody st_path_of, defScope st_path_of, [], []⟩
/-! ### next_triple -/
abbrev st_next_triple : Stmt := top 24
def N_next_triple : List Str := ["triple", "way", "least", "middle", "most"]
def p_next_triple : List Str := ["triple", "way"]
theorem sc_next_triple : FnScope N_next_triple p_next_triple (defScope st_next_triple) := ⟨rfl, rfl, rfl, by decide +kernel, rfl, by decide +kernel, by decide +kernel⟩
def d_next_triple : He.DefD := ⟨("next_triple", none), "next_triple", "next_triple", defArgs st_next_triple, defBody st_next_triple, defScope st_next_triple, [], []⟩
/-! ### triple_at -/
abbrev st_triple_at : Stmt := top 25
def N_triple_at : List Str := ["path", "number", "way", "here"]
def p_triple_at : List Str := ["path"]
theorem sc_triple_at : FnScope N_triple_at p_triple_at (defScope st_triple_at) := ⟨rfl, rfl, rfl, by decide +kernel, rfl, by decide +kernel, by decide +kernel⟩
def d_triple_at : He.DefD := ⟨("triple_at", none), "triple_at", "triple_at", defArgs st_triple_at, defBody st_triple_at, defScope st_triple_at, [], []⟩
/-! ### need_most -/
abbrev st_need_most : Stmt := top 16
def N_need_most : List Str := ["most"]
def p_need_most : List Str := ["most"]
theorem sc_need_most : FnScope N_need_most p_need_most (defScope st_need_most) := ⟨rfl, rfl, rfl, by decide +kernel, rfl, by decide +kernel, by decide +kernel⟩
def d_need_most : He.DefD := ⟨("need_most", none), "need_most", "need_most", defArgs st_need_most, defBody st_need_most, defScope st_need_most, [], []⟩
/-! ### own_triples -/
abbrev st_own_triples : Stmt := top 29
def N_own_triples : List Str := ["most", "found", "todo", "here", "triple", "near"]
def p_own_triples : List Str := ["most"]
theorem sc_own_triples : FnScope N_own_triples p_own_triples (defScope st_own_triples) := ⟨rfl, rfl, rfl, by decide +kernel, rfl, by decide +kernel, by decide +kernel⟩
def d_own_triples : He.DefD := ⟨("own_triples", none), "own_triples", "own_triples", defArgs st_own_triples, defBody st_own_triples, defScope st_own_triples, [], []⟩
/-! ### is_markov -/
abbrev st_is_markov : Stmt := top 32
def N_is_markov : List Str := ["number", "triple"]
def p_is_markov : List Str := ["number"]
theorem sc_is_markov : FnScope N_is_markov p_is_markov (defScope st_is_markov) := ⟨rfl, rfl, rfl, by decide +kernel, rfl, by decide +kernel, by decide +kernel⟩
def d_is_markov : He.DefD := ⟨("is_markov", none), "is_markov", "is_markov", defArgs st_is_markov, defBody st_is_markov, defScope st_is_markov, [], []⟩
/-! ### triples_of -/
abbrev st_triples_of : Stmt := top 31
def N_triples_of : List Str := ["number", "triple"]
def p_triples_of : List Str := ["number"]
theorem sc_triples_of : FnScope N_triples_of p_triples_of (defScope st_triples_of) := ⟨rfl, rfl, rfl, by decide +kernel, rfl, by decide +kernel, by decide +kernel⟩
def d_triples_of : He.DefD := ⟨("triples_of", none), "triples_of", "triples_of", defArgs st_triples_of, defBody st_triples_of, defScope st_triples_of, [], []⟩
/-! ### _law_told -/
abbrev st__law_told : Stmt := top 38
def N__law_told : List Str := ["deed", "found", "error"]
def p__law_told : List Str := ["deed"]
theorem sc__law_told : FnScope N__law_told p__law_told (defScope st__law_told) := ⟨rfl, rfl, rfl, by decide +kernel, rfl, by decide +kernel, by decide +kernel⟩
def d__law_told : He.DefD := ⟨("_law_told", none), "_law_told", "_law_told", defArgs st__law_told, defBody st__law_told, defScope st__law_told, [], []⟩
/-! ### _law_right -/
abbrev st__law_right : Stmt := top 41
def N__law_right : List Str := ["state", "turn", "path", "due", "at", "odd", "least", "middle", "most", "wrong", "bad", "place", "deed", "step"]
def p__law_right : List Str := ["state"]
theorem sc__law_right : FnScope N__law_right p__law_right (defScope st__law_right) := ⟨rfl, rfl, rfl, by decide +kernel, rfl, by decide +kernel, by decide +kernel⟩
def d__law_right : He.DefD := ⟨("_law_right", none), "_law_right", "_law_right", defArgs st__law_right, defBody st__law_right, defScope st__law_right, [], []⟩
/-! ### _law_draw -/
abbrev st__law_draw : Stmt := top 35
def N__law_draw : List Str := ["cell", "k"]
def p__law_draw : List Str := ["cell", "k"]
theorem sc__law_draw : FnScope N__law_draw p__law_draw (defScope st__law_draw) := ⟨rfl, rfl, rfl, by decide +kernel, rfl, by decide +kernel, by decide +kernel⟩
def d__law_draw : He.DefD := ⟨("_law_draw", none), "_law_draw", "_law_draw", defArgs st__law_draw, defBody st__law_draw, defScope st__law_draw, [], []⟩
/-! ### _law_root -/
abbrev st__law_root : Stmt := top 37
def N__law_root : List Str := ["number", "here"]
def p__law_root : List Str := ["number"]
theorem sc__law_root : FnScope N__law_root p__law_root (defScope st__law_root) := ⟨rfl, rfl, rfl, by decide +kernel, rfl, by decide +kernel, by decide +kernel⟩
def d__law_root : He.DefD := ⟨("_law_root", none), "_law_root", "_law_root", defArgs st__law_root, defBody st__law_root, defScope st__law_root, [], []⟩
/-! ### _law_tried -/
abbrev st__law_tried : Stmt := top 40
def N__law_tried : List Str := ["most", "found", "third", "first", "middle", "under", "root", "second"]
def p__law_tried : List Str := ["most"]
theorem sc__law_tried : FnScope N__law_tried p__law_tried (defScope st__law_tried) := ⟨rfl, rfl, rfl, by decide +kernel, rfl, by decide +kernel, by decide +kernel⟩
def d__law_tried : He.DefD := ⟨("_law_tried", none), "_law_tried", "_law_tried", defArgs st__law_tried, defBody st__law_tried, defScope st__law_tried, [], []⟩
/-! ### triples_up_to -/
abbrev st_triples_up_to : Stmt := top 30
def N_triples_up_to : List Str := ["most"]
def p_triples_up_to : List Str := ["most"]
theorem sc_triples_up_to : FnScope N_triples_up_to p_triples_up_to (defScope st_triples_up_to) := ⟨rfl, rfl, rfl, by decide +kernel, rfl, by decide +kernel, by decide +kernel⟩
def d_triples_up_to : He.DefD := ⟨("triples_up_to", none), "triples_up_to", "triples_up_to", defArgs st_triples_up_to, defBody st_triples_up_to, defScope st_triples_up_to, [], []⟩
/-! ### law -/
abbrev st_law : Stmt := top 42
def N_law : List Str := ["script", "k", "cell", "state", "most", "rows", "number", "due", "numbers", "far", "near", "found", "bad", "low", "odd", "deed", "triple"]
def p_law : List Str := ["script"]
theorem sc_law : FnScope N_law p_law (defScope st_law) := ⟨rfl, rfl, rfl, by decide +kernel, rfl, by decide +kernel, by decide +kernel⟩
def d_law : He.DefD := ⟨("law", none), "law", "law", defArgs st_law, defBody st_law, defScope st_law, [], []⟩
abbrev st_BadTriple_init : Stmt := (cBody (top 4)).getD 0 (.Pass ⟨0, 0, 0, 0⟩)
def d_BadTriple_init : He.DefD := ⟨("BadTriple", some "__init__"), "__init__", "BadTriple.__init__", defArgs st_BadTriple_init, defBody st_BadTriple_init, defScope st_BadTriple_init, [.non], []⟩
abbrev st_NoSuch_init : Stmt := (cBody (top 7)).getD 0 (.Pass ⟨0, 0, 0, 0⟩)
def d_NoSuch_init : He.DefD := ⟨("NoSuch", some "__init__"), "__init__", "NoSuch.__init__", defArgs st_NoSuch_init, defBody st_NoSuch_init, defScope st_NoSuch_init, [.non], []⟩
abbrev st_BadRow_init : Stmt := (cBody (top 3)).getD 0 (.Pass ⟨0, 0, 0, 0⟩)
def d_BadRow_init : He.DefD := ⟨("BadRow", some "__init__"), "__init__", "BadRow.__init__", defArgs st_BadRow_init, defBody st_BadRow_init, defScope st_BadRow_init, [.non], []⟩
abbrev st_TooMany_init : Stmt := (cBody (top 6)).getD 0 (.Pass ⟨0, 0, 0, 0⟩)
def d_TooMany_init : He.DefD := ⟨("TooMany", some "__init__"), "__init__", "TooMany.__init__", defArgs st_TooMany_init, defBody st_TooMany_init, defScope st_TooMany_init, [], []⟩
abbrev st_BadNumber_init : Stmt := (cBody (top 2)).getD 0 (.Pass ⟨0, 0, 0, 0⟩)
def d_BadNumber_init : He.DefD := ⟨("BadNumber", some "__init__"), "__init__", "BadNumber.__init__", defArgs st_BadNumber_init, defBody st_BadNumber_init, defScope st_BadNumber_init, [.non], []⟩
abbrev st_BadText_init : Stmt := (cBody (top 5)).getD 0 (.Pass ⟨0, 0, 0, 0⟩)
def d_BadText_init : He.DefD := ⟨("BadText", some "__init__"), "__init__", "BadText.__init__", defArgs st_BadText_init, defBody st_BadText_init, defScope st_BadText_init, [.non], []⟩
/-! ### facts -/
def fs : List (PySem.W.Frag → Bool) := [
  fun K => He.Fa.ok K (.free "sum"),
  fun K => He.Fa.ok K (.free "enumerate"),
  fun K => He.Fa.ok K (.free "range"),
  fun K => He.Fa.ok K (.glo "_law_mixed"),
  fun K => He.Fa.ok K (.glo "_law_digit"),
  fun K => He.Fa.ok K (.free "tuple"),
  fun K => He.Fa.ok K (.glo "_law_triple"),
  fun K => He.Fa.ok K (.free "bool"),
  fun K => He.Fa.ok K (.free "isinstance"),
  fun K => He.Fa.ok K (.free "int"),
  fun K => He.Fa.ok K (.glo "is_whole"),
  fun K => He.Fa.ok K (.int "MOST_NUMBER" (100000000000000000000000000000000000000000000000000000000000000000000000000000000000000000000000000000000000000000000000000000000000000000000000000000000000000000000000000000000000000000000000000000000)),
  fun K => He.Fa.ok K (.free "all"),
  fun K => He.Fa.ok K (.free "len"),
  fun K => He.Fa.ok K (.glo "are_numbers"),
  fun K => He.Fa.ok K (.free "zip"),
  fun K => He.Fa.ok K (.glo "does_solve"),
  litG "MARKOV" (.tup [(.int (1)), (.int (1)), (.int (1)), (.int (3))]),
  fun K => He.Fa.ok K (.glo "wrong_triple"),
  xcB "BadTriple" "place" "WholeError" true "ValueError" "ValueError.__new__" "ValueError.__init__" He.veBase,
  fun K => He.Fa.ok K (.glo "need_triple"),
  litG "LOW" (.tup [(.tup [(.int (1)), (.int (1)), (.int (1))]), (.tup [(.int (1)), (.int (1)), (.int (2))])]),
  xcB "NoSuch" "value" "LookupError" false "LookupError" "LookupError.__new__" "LookupError.__init__" leBase,
  fun K => He.Fa.ok K (.glo "need_high"),
  litG "TOP" (.tup [(.int (1)), (.int (2)), (.int (5))]),
  fun K => He.Fa.ok K (.free "sorted"),
  fun K => He.Fa.ok K (.glo "own_path"),
  fun K => He.Fa.ok K (.glo "path_of"),
  fun K => He.Fa.ok K (.free "repr"),
  fun K => He.Fa.ok K (.int "MOST_PATH" (300)),
  xcB "BadRow" "place" "WholeError" true "ValueError" "ValueError.__new__" "ValueError.__init__" He.veBase,
  fun K => He.Fa.ok K (.glo "next_triple"),
  fun K => He.Fa.ok K (.int "MOST_DIGITS" (200)),
  xcB "TooMany" "most" "OverflowError" false "OverflowError" "OverflowError.__new__" "OverflowError.__init__" oeBase,
  fun K => He.Fa.ok K (.glo "triple_at"),
  fun K => He.Fa.ok K (.int "MOST_LISTED" (1000000000000000000000000000000000000000000000000000000000000)),
  xcB "BadNumber" "value" "WholeError" true "ValueError" "ValueError.__new__" "ValueError.__init__" He.veBase,
  fun K => He.Fa.ok K (.glo "need_most"),
  fun K => He.Fa.ok K (.glo "own_triples"),
  fun K => He.Fa.ok K (.free "any"),
  fun K => He.Fa.ok K (.glo "is_markov"),
  fun K => He.Fa.ok K (.glo "triples_of"),
  fun K => He.Fa.ok K (.exm "BadNumber" "TooMany" false),
  fun K => He.Fa.ok K (.glo "BadNumber"),
  fun K => He.Fa.ok K (.exm "BadRow" "TooMany" false),
  fun K => He.Fa.ok K (.glo "BadRow"),
  fun K => He.Fa.ok K (.exm "BadTriple" "TooMany" false),
  fun K => He.Fa.ok K (.glo "BadTriple"),
  fun K => He.Fa.ok K (.exm "BadText" "TooMany" false),
  fun K => He.Fa.ok K (.glo "BadText"),
  fun K => He.Fa.ok K (.exm "TooMany" "TooMany" true),
  fun K => He.Fa.ok K (.glo "TooMany"),
  fun K => He.Fa.ok K (.exm "NoSuch" "TooMany" false),
  fun K => He.Fa.ok K (.glo "NoSuch"),
  fun K => He.Fa.ok K (.exm "BadNumber" "NoSuch" false),
  fun K => He.Fa.ok K (.exm "BadRow" "NoSuch" false),
  fun K => He.Fa.ok K (.exm "BadTriple" "NoSuch" false),
  fun K => He.Fa.ok K (.exm "BadText" "NoSuch" false),
  fun K => He.Fa.ok K (.exm "TooMany" "NoSuch" false),
  fun K => He.Fa.ok K (.exm "NoSuch" "NoSuch" true),
  xcB "BadText" "place" "WholeError" true "ValueError" "ValueError.__new__" "ValueError.__init__" He.veBase,
  fun K => He.Fa.ok K (.exm "BadNumber" "BadText" false),
  fun K => He.Fa.ok K (.exm "BadRow" "BadText" false),
  fun K => He.Fa.ok K (.exm "BadTriple" "BadText" false),
  fun K => He.Fa.ok K (.exm "BadText" "BadText" true),
  fun K => He.Fa.ok K (.exm "TooMany" "BadText" false),
  fun K => He.Fa.ok K (.exm "NoSuch" "BadText" false),
  fun K => He.Fa.ok K (.exm "BadNumber" "BadRow" false),
  fun K => He.Fa.ok K (.exm "BadRow" "BadRow" true),
  fun K => He.Fa.ok K (.exm "BadTriple" "BadRow" false),
  fun K => He.Fa.ok K (.exm "BadText" "BadRow" false),
  fun K => He.Fa.ok K (.exm "TooMany" "BadRow" false),
  fun K => He.Fa.ok K (.exm "NoSuch" "BadRow" false),
  fun K => He.Fa.ok K (.exm "BadNumber" "BadNumber" true),
  fun K => He.Fa.ok K (.exm "BadRow" "BadNumber" false),
  fun K => He.Fa.ok K (.exm "BadTriple" "BadNumber" false),
  fun K => He.Fa.ok K (.exm "BadText" "BadNumber" false),
  fun K => He.Fa.ok K (.exm "TooMany" "BadNumber" false),
  fun K => He.Fa.ok K (.exm "NoSuch" "BadNumber" false),
  fun K => He.Fa.ok K (.exm "BadNumber" "BadTriple" false),
  fun K => He.Fa.ok K (.exm "BadRow" "BadTriple" false),
  fun K => He.Fa.ok K (.exm "BadTriple" "BadTriple" true),
  fun K => He.Fa.ok K (.exm "BadText" "BadTriple" false),
  fun K => He.Fa.ok K (.exm "TooMany" "BadTriple" false),
  fun K => He.Fa.ok K (.exm "NoSuch" "BadTriple" false),
  fun K => He.Fa.ok K (.glo "_law_told"),
  fun K => He.Fa.ok K (.glo "_law_right"),
  fun K => He.Fa.ok K (.glo "_law_draw"),
  fun K => He.Fa.ok K (.glo "_law_root"),
  fun K => He.Fa.ok K (.glo "_law_tried"),
  fun K => He.Fa.ok K (.glo "triples_up_to"),
  fun K => He.Fa.ok K (.glo "law")]
def fn : List He.DefD := [d__law_mixed, d__law_digit, d__law_triple, d_is_whole, d_are_numbers, d_does_solve, d_wrong_triple, d_need_triple, d_need_high, d_own_path, d_path_of, d_next_triple, d_triple_at, d_need_most, d_own_triples, d_is_markov, d_triples_of, d__law_told, d__law_right, d__law_draw, d__law_root, d__law_tried, d_triples_up_to, d_law, d_BadTriple_init, d_NoSuch_init, d_BadRow_init, d_TooMany_init, d_BadNumber_init, d_BadText_init]
def tf : List DefAt := [("own_triples", none), ("_law_right", none), ("_law_tried", none), ("law", none)]
structure Fct (K : PySem.W.Frag) (mg : Str → Option Value) (base : Heap) : Prop where
  tb : ∀ p ∈ tf, LamX.TabB base mg (He.cT K p).1 (He.cT K p).2
  nd : (tf.map fun p => (He.cT K p).2).Nodup
  f_sum : mg "sum" = none
  f_enumerate : mg "enumerate" = none
  f_range : mg "range" = none
  m__law_mixed : mg "_law_mixed" = some (.ref (He.ga K "_law_mixed"))
  m__law_digit : mg "_law_digit" = some (.ref (He.ga K "_law_digit"))
  f_tuple : mg "tuple" = none
  m__law_triple : mg "_law_triple" = some (.ref (He.ga K "_law_triple"))
  f_bool : mg "bool" = none
  f_isinstance : mg "isinstance" = none
  f_int : mg "int" = none
  m_is_whole : mg "is_whole" = some (.ref (He.ga K "is_whole"))
  i_MOST_NUMBER : ∃ t, mg "MOST_NUMBER" = some (.int (100000000000000000000000000000000000000000000000000000000000000000000000000000000000000000000000000000000000000000000000000000000000000000000000000000000000000000000000000000000000000000000000000000000) t)
  f_all : mg "all" = none
  f_len : mg "len" = none
  m_are_numbers : mg "are_numbers" = some (.ref (He.ga K "are_numbers"))
  f_zip : mg "zip" = none
  m_does_solve : mg "does_solve" = some (.ref (He.ga K "does_solve"))
  l_MARKOV : LitR K mg "MARKOV" (.tup [(.int (1)), (.int (1)), (.int (1)), (.int (3))])
  m_wrong_triple : mg "wrong_triple" = some (.ref (He.ga K "wrong_triple"))
  x_BadTriple : MiX.XcTxt K mg "BadTriple" "place" "WholeError" (He.ga K "BadTriple") (He.ma K (He.ga K "BadTriple") "__init__") "ValueError.__new__" "ValueError.__init__" He.veBase
  m_need_triple : mg "need_triple" = some (.ref (He.ga K "need_triple"))
  l_LOW : LitR K mg "LOW" (.tup [(.tup [(.int (1)), (.int (1)), (.int (1))]), (.tup [(.int (1)), (.int (1)), (.int (2))])])
  x_NoSuch : MiX.XcTxt K mg "NoSuch" "value" "LookupError" (He.ga K "NoSuch") (He.ma K (He.ga K "NoSuch") "__init__") "LookupError.__new__" "LookupError.__init__" leBase
  m_need_high : mg "need_high" = some (.ref (He.ga K "need_high"))
  l_TOP : LitR K mg "TOP" (.tup [(.int (1)), (.int (2)), (.int (5))])
  f_sorted : mg "sorted" = none
  m_own_path : mg "own_path" = some (.ref (He.ga K "own_path"))
  m_path_of : mg "path_of" = some (.ref (He.ga K "path_of"))
  f_repr : mg "repr" = none
  i_MOST_PATH : ∃ t, mg "MOST_PATH" = some (.int (300) t)
  x_BadRow : MiX.XcTxt K mg "BadRow" "place" "WholeError" (He.ga K "BadRow") (He.ma K (He.ga K "BadRow") "__init__") "ValueError.__new__" "ValueError.__init__" He.veBase
  m_next_triple : mg "next_triple" = some (.ref (He.ga K "next_triple"))
  i_MOST_DIGITS : ∃ t, mg "MOST_DIGITS" = some (.int (200) t)
  x_TooMany : MiX.XcTxt K mg "TooMany" "most" "OverflowError" (He.ga K "TooMany") (He.ma K (He.ga K "TooMany") "__init__") "OverflowError.__new__" "OverflowError.__init__" oeBase
  m_triple_at : mg "triple_at" = some (.ref (He.ga K "triple_at"))
  i_MOST_LISTED : ∃ t, mg "MOST_LISTED" = some (.int (1000000000000000000000000000000000000000000000000000000000000) t)
  x_BadNumber : MiX.XcTxt K mg "BadNumber" "value" "WholeError" (He.ga K "BadNumber") (He.ma K (He.ga K "BadNumber") "__init__") "ValueError.__new__" "ValueError.__init__" He.veBase
  m_need_most : mg "need_most" = some (.ref (He.ga K "need_most"))
  m_own_triples : mg "own_triples" = some (.ref (He.ga K "own_triples"))
  f_any : mg "any" = none
  m_is_markov : mg "is_markov" = some (.ref (He.ga K "is_markov"))
  m_triples_of : mg "triples_of" = some (.ref (He.ga K "triples_of"))
  e_BadNumber_TooMany : PySem.W.exmOne K (.ref (He.ga K "BadNumber")) (.ref (He.ga K "TooMany")) = some false
  m_BadNumber : mg "BadNumber" = some (.ref (He.ga K "BadNumber"))
  e_BadRow_TooMany : PySem.W.exmOne K (.ref (He.ga K "BadRow")) (.ref (He.ga K "TooMany")) = some false
  m_BadRow : mg "BadRow" = some (.ref (He.ga K "BadRow"))
  e_BadTriple_TooMany : PySem.W.exmOne K (.ref (He.ga K "BadTriple")) (.ref (He.ga K "TooMany")) = some false
  m_BadTriple : mg "BadTriple" = some (.ref (He.ga K "BadTriple"))
  e_BadText_TooMany : PySem.W.exmOne K (.ref (He.ga K "BadText")) (.ref (He.ga K "TooMany")) = some false
  m_BadText : mg "BadText" = some (.ref (He.ga K "BadText"))
  e_TooMany_TooMany : PySem.W.exmOne K (.ref (He.ga K "TooMany")) (.ref (He.ga K "TooMany")) = some true
  m_TooMany : mg "TooMany" = some (.ref (He.ga K "TooMany"))
  e_NoSuch_TooMany : PySem.W.exmOne K (.ref (He.ga K "NoSuch")) (.ref (He.ga K "TooMany")) = some false
  m_NoSuch : mg "NoSuch" = some (.ref (He.ga K "NoSuch"))
  e_BadNumber_NoSuch : PySem.W.exmOne K (.ref (He.ga K "BadNumber")) (.ref (He.ga K "NoSuch")) = some false
  e_BadRow_NoSuch : PySem.W.exmOne K (.ref (He.ga K "BadRow")) (.ref (He.ga K "NoSuch")) = some false
  e_BadTriple_NoSuch : PySem.W.exmOne K (.ref (He.ga K "BadTriple")) (.ref (He.ga K "NoSuch")) = some false
  e_BadText_NoSuch : PySem.W.exmOne K (.ref (He.ga K "BadText")) (.ref (He.ga K "NoSuch")) = some false
  e_TooMany_NoSuch : PySem.W.exmOne K (.ref (He.ga K "TooMany")) (.ref (He.ga K "NoSuch")) = some false
  e_NoSuch_NoSuch : PySem.W.exmOne K (.ref (He.ga K "NoSuch")) (.ref (He.ga K "NoSuch")) = some true
  x_BadText : MiX.XcTxt K mg "BadText" "place" "WholeError" (He.ga K "BadText") (He.ma K (He.ga K "BadText") "__init__") "ValueError.__new__" "ValueError.__init__" He.veBase
  e_BadNumber_BadText : PySem.W.exmOne K (.ref (He.ga K "BadNumber")) (.ref (He.ga K "BadText")) = some false
  e_BadRow_BadText : PySem.W.exmOne K (.ref (He.ga K "BadRow")) (.ref (He.ga K "BadText")) = some false
  e_BadTriple_BadText : PySem.W.exmOne K (.ref (He.ga K "BadTriple")) (.ref (He.ga K "BadText")) = some false
  e_BadText_BadText : PySem.W.exmOne K (.ref (He.ga K "BadText")) (.ref (He.ga K "BadText")) = some true
  e_TooMany_BadText : PySem.W.exmOne K (.ref (He.ga K "TooMany")) (.ref (He.ga K "BadText")) = some false
  e_NoSuch_BadText : PySem.W.exmOne K (.ref (He.ga K "NoSuch")) (.ref (He.ga K "BadText")) = some false
  e_BadNumber_BadRow : PySem.W.exmOne K (.ref (He.ga K "BadNumber")) (.ref (He.ga K "BadRow")) = some false
  e_BadRow_BadRow : PySem.W.exmOne K (.ref (He.ga K "BadRow")) (.ref (He.ga K "BadRow")) = some true
  e_BadTriple_BadRow : PySem.W.exmOne K (.ref (He.ga K "BadTriple")) (.ref (He.ga K "BadRow")) = some false
  e_BadText_BadRow : PySem.W.exmOne K (.ref (He.ga K "BadText")) (.ref (He.ga K "BadRow")) = some false
  e_TooMany_BadRow : PySem.W.exmOne K (.ref (He.ga K "TooMany")) (.ref (He.ga K "BadRow")) = some false
  e_NoSuch_BadRow : PySem.W.exmOne K (.ref (He.ga K "NoSuch")) (.ref (He.ga K "BadRow")) = some false
  e_BadNumber_BadNumber : PySem.W.exmOne K (.ref (He.ga K "BadNumber")) (.ref (He.ga K "BadNumber")) = some true
  e_BadRow_BadNumber : PySem.W.exmOne K (.ref (He.ga K "BadRow")) (.ref (He.ga K "BadNumber")) = some false
  e_BadTriple_BadNumber : PySem.W.exmOne K (.ref (He.ga K "BadTriple")) (.ref (He.ga K "BadNumber")) = some false
  e_BadText_BadNumber : PySem.W.exmOne K (.ref (He.ga K "BadText")) (.ref (He.ga K "BadNumber")) = some false
  e_TooMany_BadNumber : PySem.W.exmOne K (.ref (He.ga K "TooMany")) (.ref (He.ga K "BadNumber")) = some false
  e_NoSuch_BadNumber : PySem.W.exmOne K (.ref (He.ga K "NoSuch")) (.ref (He.ga K "BadNumber")) = some false
  e_BadNumber_BadTriple : PySem.W.exmOne K (.ref (He.ga K "BadNumber")) (.ref (He.ga K "BadTriple")) = some false
  e_BadRow_BadTriple : PySem.W.exmOne K (.ref (He.ga K "BadRow")) (.ref (He.ga K "BadTriple")) = some false
  e_BadTriple_BadTriple : PySem.W.exmOne K (.ref (He.ga K "BadTriple")) (.ref (He.ga K "BadTriple")) = some true
  e_BadText_BadTriple : PySem.W.exmOne K (.ref (He.ga K "BadText")) (.ref (He.ga K "BadTriple")) = some false
  e_TooMany_BadTriple : PySem.W.exmOne K (.ref (He.ga K "TooMany")) (.ref (He.ga K "BadTriple")) = some false
  e_NoSuch_BadTriple : PySem.W.exmOne K (.ref (He.ga K "NoSuch")) (.ref (He.ga K "BadTriple")) = some false
  m__law_told : mg "_law_told" = some (.ref (He.ga K "_law_told"))
  m__law_right : mg "_law_right" = some (.ref (He.ga K "_law_right"))
  m__law_draw : mg "_law_draw" = some (.ref (He.ga K "_law_draw"))
  m__law_root : mg "_law_root" = some (.ref (He.ga K "_law_root"))
  m__law_tried : mg "_law_tried" = some (.ref (He.ga K "_law_tried"))
  m_triples_up_to : mg "triples_up_to" = some (.ref (He.ga K "triples_up_to"))
  m_law : mg "law" = some (.ref (He.ga K "law"))
  F__law_mixed : ∃ fd, FunD K d__law_mixed.name d__law_mixed.qual d__law_mixed.params d__law_mixed.body d__law_mixed.scope (d__law_mixed.dvs K) (d__law_mixed.kws K) (He.fAd K d__law_mixed.at_) fd
  F__law_digit : ∃ fd, FunD K d__law_digit.name d__law_digit.qual d__law_digit.params d__law_digit.body d__law_digit.scope (d__law_digit.dvs K) (d__law_digit.kws K) (He.fAd K d__law_digit.at_) fd
  F__law_triple : ∃ fd, FunD K d__law_triple.name d__law_triple.qual d__law_triple.params d__law_triple.body d__law_triple.scope (d__law_triple.dvs K) (d__law_triple.kws K) (He.fAd K d__law_triple.at_) fd
  F_is_whole : ∃ fd, FunD K d_is_whole.name d_is_whole.qual d_is_whole.params d_is_whole.body d_is_whole.scope (d_is_whole.dvs K) (d_is_whole.kws K) (He.fAd K d_is_whole.at_) fd
  F_are_numbers : ∃ fd, FunD K d_are_numbers.name d_are_numbers.qual d_are_numbers.params d_are_numbers.body d_are_numbers.scope (d_are_numbers.dvs K) (d_are_numbers.kws K) (He.fAd K d_are_numbers.at_) fd
  F_does_solve : ∃ fd, FunD K d_does_solve.name d_does_solve.qual d_does_solve.params d_does_solve.body d_does_solve.scope (d_does_solve.dvs K) (d_does_solve.kws K) (He.fAd K d_does_solve.at_) fd
  F_wrong_triple : ∃ fd, FunD K d_wrong_triple.name d_wrong_triple.qual d_wrong_triple.params d_wrong_triple.body d_wrong_triple.scope (d_wrong_triple.dvs K) (d_wrong_triple.kws K) (He.fAd K d_wrong_triple.at_) fd
  F_need_triple : ∃ fd, FunD K d_need_triple.name d_need_triple.qual d_need_triple.params d_need_triple.body d_need_triple.scope (d_need_triple.dvs K) (d_need_triple.kws K) (He.fAd K d_need_triple.at_) fd
  F_need_high : ∃ fd, FunD K d_need_high.name d_need_high.qual d_need_high.params d_need_high.body d_need_high.scope (d_need_high.dvs K) (d_need_high.kws K) (He.fAd K d_need_high.at_) fd
  F_own_path : ∃ fd, FunD K d_own_path.name d_own_path.qual d_own_path.params d_own_path.body d_own_path.scope (d_own_path.dvs K) (d_own_path.kws K) (He.fAd K d_own_path.at_) fd
  F_path_of : ∃ fd, FunD K d_path_of.name d_path_of.qual d_path_of.params d_path_of.body d_path_of.scope (d_path_of.dvs K) (d_path_of.kws K) (He.fAd K d_path_of.at_) fd
  F_next_triple : ∃ fd, FunD K d_next_triple.name d_next_triple.qual d_next_triple.params d_next_triple.body d_next_triple.scope (d_next_triple.dvs K) (d_next_triple.kws K) (He.fAd K d_next_triple.at_) fd
  F_triple_at : ∃ fd, FunD K d_triple_at.name d_triple_at.qual d_triple_at.params d_triple_at.body d_triple_at.scope (d_triple_at.dvs K) (d_triple_at.kws K) (He.fAd K d_triple_at.at_) fd
  F_need_most : ∃ fd, FunD K d_need_most.name d_need_most.qual d_need_most.params d_need_most.body d_need_most.scope (d_need_most.dvs K) (d_need_most.kws K) (He.fAd K d_need_most.at_) fd
  F_own_triples : ∃ fd, FunD K d_own_triples.name d_own_triples.qual d_own_triples.params d_own_triples.body d_own_triples.scope (d_own_triples.dvs K) (d_own_triples.kws K) (He.fAd K d_own_triples.at_) fd
  F_is_markov : ∃ fd, FunD K d_is_markov.name d_is_markov.qual d_is_markov.params d_is_markov.body d_is_markov.scope (d_is_markov.dvs K) (d_is_markov.kws K) (He.fAd K d_is_markov.at_) fd
  F_triples_of : ∃ fd, FunD K d_triples_of.name d_triples_of.qual d_triples_of.params d_triples_of.body d_triples_of.scope (d_triples_of.dvs K) (d_triples_of.kws K) (He.fAd K d_triples_of.at_) fd
  F__law_told : ∃ fd, FunD K d__law_told.name d__law_told.qual d__law_told.params d__law_told.body d__law_told.scope (d__law_told.dvs K) (d__law_told.kws K) (He.fAd K d__law_told.at_) fd
  F__law_right : ∃ fd, FunD K d__law_right.name d__law_right.qual d__law_right.params d__law_right.body d__law_right.scope (d__law_right.dvs K) (d__law_right.kws K) (He.fAd K d__law_right.at_) fd
  F__law_draw : ∃ fd, FunD K d__law_draw.name d__law_draw.qual d__law_draw.params d__law_draw.body d__law_draw.scope (d__law_draw.dvs K) (d__law_draw.kws K) (He.fAd K d__law_draw.at_) fd
  F__law_root : ∃ fd, FunD K d__law_root.name d__law_root.qual d__law_root.params d__law_root.body d__law_root.scope (d__law_root.dvs K) (d__law_root.kws K) (He.fAd K d__law_root.at_) fd
  F__law_tried : ∃ fd, FunD K d__law_tried.name d__law_tried.qual d__law_tried.params d__law_tried.body d__law_tried.scope (d__law_tried.dvs K) (d__law_tried.kws K) (He.fAd K d__law_tried.at_) fd
  F_triples_up_to : ∃ fd, FunD K d_triples_up_to.name d_triples_up_to.qual d_triples_up_to.params d_triples_up_to.body d_triples_up_to.scope (d_triples_up_to.dvs K) (d_triples_up_to.kws K) (He.fAd K d_triples_up_to.at_) fd
  F_law : ∃ fd, FunD K d_law.name d_law.qual d_law.params d_law.body d_law.scope (d_law.dvs K) (d_law.kws K) (He.fAd K d_law.at_) fd
def mt_TooMany : Str → Option Bool := fun c => if c = "BadNumber" then some false else if c = "BadRow" then some false else if c = "BadTriple" then some false else if c = "BadText" then some false else if c = "TooMany" then some true else if c = "NoSuch" then some false else none
theorem mt_TooMany_ok {K : PySem.W.Frag} {mg : Str → Option Value} {base : Heap} (c : Fct K mg base) : ∀ c' b, mt_TooMany c' = some b → ∀ C, mg c' = some (.ref C) → PySem.W.exmOne K (.ref C) (.ref (He.ga K "TooMany")) = some b := by
  intro x b h C hC
  unfold mt_TooMany at h
  split at h
  · rename_i e; subst e; cases h; rw [c.m_BadNumber] at hC; cases hC; exact c.e_BadNumber_TooMany
  split at h
  · rename_i e; subst e; cases h; rw [c.m_BadRow] at hC; cases hC; exact c.e_BadRow_TooMany
  split at h
  · rename_i e; subst e; cases h; rw [c.m_BadTriple] at hC; cases hC; exact c.e_BadTriple_TooMany
  split at h
  · rename_i e; subst e; cases h; rw [c.m_BadText] at hC; cases hC; exact c.e_BadText_TooMany
  split at h
  · rename_i e; subst e; cases h; rw [c.m_TooMany] at hC; cases hC; exact c.e_TooMany_TooMany
  split at h
  · rename_i e; subst e; cases h; rw [c.m_NoSuch] at hC; cases hC; exact c.e_NoSuch_TooMany
  cases h
def mt_NoSuch : Str → Option Bool := fun c => if c = "BadNumber" then some false else if c = "BadRow" then some false else if c = "BadTriple" then some false else if c = "BadText" then some false else if c = "TooMany" then some false else if c = "NoSuch" then some true else none
theorem mt_NoSuch_ok {K : PySem.W.Frag} {mg : Str → Option Value} {base : Heap} (c : Fct K mg base) : ∀ c' b, mt_NoSuch c' = some b → ∀ C, mg c' = some (.ref C) → PySem.W.exmOne K (.ref C) (.ref (He.ga K "NoSuch")) = some b := by
  intro x b h C hC
  unfold mt_NoSuch at h
  split at h
  · rename_i e; subst e; cases h; rw [c.m_BadNumber] at hC; cases hC; exact c.e_BadNumber_NoSuch
  split at h
  · rename_i e; subst e; cases h; rw [c.m_BadRow] at hC; cases hC; exact c.e_BadRow_NoSuch
  split at h
  · rename_i e; subst e; cases h; rw [c.m_BadTriple] at hC; cases hC; exact c.e_BadTriple_NoSuch
  split at h
  · rename_i e; subst e; cases h; rw [c.m_BadText] at hC; cases hC; exact c.e_BadText_NoSuch
  split at h
  · rename_i e; subst e; cases h; rw [c.m_TooMany] at hC; cases hC; exact c.e_TooMany_NoSuch
  split at h
  · rename_i e; subst e; cases h; rw [c.m_NoSuch] at hC; cases hC; exact c.e_NoSuch_NoSuch
  cases h
def mt_BadText : Str → Option Bool := fun c => if c = "BadNumber" then some false else if c = "BadRow" then some false else if c = "BadTriple" then some false else if c = "BadText" then some true else if c = "TooMany" then some false else if c = "NoSuch" then some false else none
theorem mt_BadText_ok {K : PySem.W.Frag} {mg : Str → Option Value} {base : Heap} (c : Fct K mg base) : ∀ c' b, mt_BadText c' = some b → ∀ C, mg c' = some (.ref C) → PySem.W.exmOne K (.ref C) (.ref (He.ga K "BadText")) = some b := by
  intro x b h C hC
  unfold mt_BadText at h
  split at h
  · rename_i e; subst e; cases h; rw [c.m_BadNumber] at hC; cases hC; exact c.e_BadNumber_BadText
  split at h
  · rename_i e; subst e; cases h; rw [c.m_BadRow] at hC; cases hC; exact c.e_BadRow_BadText
  split at h
  · rename_i e; subst e; cases h; rw [c.m_BadTriple] at hC; cases hC; exact c.e_BadTriple_BadText
  split at h
  · rename_i e; subst e; cases h; rw [c.m_BadText] at hC; cases hC; exact c.e_BadText_BadText
  split at h
  · rename_i e; subst e; cases h; rw [c.m_TooMany] at hC; cases hC; exact c.e_TooMany_BadText
  split at h
  · rename_i e; subst e; cases h; rw [c.m_NoSuch] at hC; cases hC; exact c.e_NoSuch_BadText
  cases h
def mt_BadRow : Str → Option Bool := fun c => if c = "BadNumber" then some false else if c = "BadRow" then some true else if c = "BadTriple" then some false else if c = "BadText" then some false else if c = "TooMany" then some false else if c = "NoSuch" then some false else none
theorem mt_BadRow_ok {K : PySem.W.Frag} {mg : Str → Option Value} {base : Heap} (c : Fct K mg base) : ∀ c' b, mt_BadRow c' = some b → ∀ C, mg c' = some (.ref C) → PySem.W.exmOne K (.ref C) (.ref (He.ga K "BadRow")) = some b := by
  intro x b h C hC
  unfold mt_BadRow at h
  split at h
  · rename_i e; subst e; cases h; rw [c.m_BadNumber] at hC; cases hC; exact c.e_BadNumber_BadRow
  split at h
  · rename_i e; subst e; cases h; rw [c.m_BadRow] at hC; cases hC; exact c.e_BadRow_BadRow
  split at h
  · rename_i e; subst e; cases h; rw [c.m_BadTriple] at hC; cases hC; exact c.e_BadTriple_BadRow
  split at h
  · rename_i e; subst e; cases h; rw [c.m_BadText] at hC; cases hC; exact c.e_BadText_BadRow
  split at h
  · rename_i e; subst e; cases h; rw [c.m_TooMany] at hC; cases hC; exact c.e_TooMany_BadRow
  split at h
  · rename_i e; subst e; cases h; rw [c.m_NoSuch] at hC; cases hC; exact c.e_NoSuch_BadRow
  cases h
def mt_BadNumber : Str → Option Bool := fun c => if c = "BadNumber" then some true else if c = "BadRow" then some false else if c = "BadTriple" then some false else if c = "BadText" then some false else if c = "TooMany" then some false else if c = "NoSuch" then some false else none
theorem mt_BadNumber_ok {K : PySem.W.Frag} {mg : Str → Option Value} {base : Heap} (c : Fct K mg base) : ∀ c' b, mt_BadNumber c' = some b → ∀ C, mg c' = some (.ref C) → PySem.W.exmOne K (.ref C) (.ref (He.ga K "BadNumber")) = some b := by
  intro x b h C hC
  unfold mt_BadNumber at h
  split at h
  · rename_i e; subst e; cases h; rw [c.m_BadNumber] at hC; cases hC; exact c.e_BadNumber_BadNumber
  split at h
  · rename_i e; subst e; cases h; rw [c.m_BadRow] at hC; cases hC; exact c.e_BadRow_BadNumber
  split at h
  · rename_i e; subst e; cases h; rw [c.m_BadTriple] at hC; cases hC; exact c.e_BadTriple_BadNumber
  split at h
  · rename_i e; subst e; cases h; rw [c.m_BadText] at hC; cases hC; exact c.e_BadText_BadNumber
  split at h
  · rename_i e; subst e; cases h; rw [c.m_TooMany] at hC; cases hC; exact c.e_TooMany_BadNumber
  split at h
  · rename_i e; subst e; cases h; rw [c.m_NoSuch] at hC; cases hC; exact c.e_NoSuch_BadNumber
  cases h
def mt_BadTriple : Str → Option Bool := fun c => if c = "BadNumber" then some false else if c = "BadRow" then some false else if c = "BadTriple" then some true else if c = "BadText" then some false else if c = "TooMany" then some false else if c = "NoSuch" then some false else none
theorem mt_BadTriple_ok {K : PySem.W.Frag} {mg : Str → Option Value} {base : Heap} (c : Fct K mg base) : ∀ c' b, mt_BadTriple c' = some b → ∀ C, mg c' = some (.ref C) → PySem.W.exmOne K (.ref C) (.ref (He.ga K "BadTriple")) = some b := by
  intro x b h C hC
  unfold mt_BadTriple at h
  split at h
  · rename_i e; subst e; cases h; rw [c.m_BadNumber] at hC; cases hC; exact c.e_BadNumber_BadTriple
  split at h
  · rename_i e; subst e; cases h; rw [c.m_BadRow] at hC; cases hC; exact c.e_BadRow_BadTriple
  split at h
  · rename_i e; subst e; cases h; rw [c.m_BadTriple] at hC; cases hC; exact c.e_BadTriple_BadTriple
  split at h
  · rename_i e; subst e; cases h; rw [c.m_BadText] at hC; cases hC; exact c.e_BadText_BadTriple
  split at h
  · rename_i e; subst e; cases h; rw [c.m_TooMany] at hC; cases hC; exact c.e_TooMany_BadTriple
  split at h
  · rename_i e; subst e; cases h; rw [c.m_NoSuch] at hC; cases hC; exact c.e_NoSuch_BadTriple
  cases h
def b__law_mixed_0 : Fs := sAsg (eOp gAdd (eOp gAdd (eOp gMod (eVar 0) (eOp gIx (eLst (aCons (eC (.int 1000000007)) (aCons (eC (.int 998244353)) (aCons (eC (.int 2147483629)) (aCons (eC (.int 1000000009)) aNil))))) (eOp gMod (eVar 1) (eC (.int 4))))) (eOp gMul (eC (.int 7919)) (eVar 1))) (eC (.int 13))) (gSet 2)
def b__law_mixed_1 : Fs := sRet (eOp gMod (eOp gMul (eOp gMod (eOp gMul (eVar 2) (eVar 2)) (eC (.int 2147483647))) (eC (.int 48271))) (eC (.int 2147483647)))
def b__law_mixed : Fs := sSeq b__law_mixed_0 (b__law_mixed_1)
def s__law_mixed : List D → Hd → Res D := runF 3 b__law_mixed
theorem ok__law_mixed {P : Program} {w : World} {K : PySem.W.Frag} {mg : Str → Option Value} {base : Heap} (c : Fct K mg base) : FDx P w K mg (tabsOf K tf) base d__law_mixed p__law_mixed 1 s__law_mixed := by
  refine fd_ok (k := 0) (N := N__law_mixed) (fb := b__law_mixed) c.F__law_mixed sc__law_mixed fun cdv A outer s H E hr => ?_
  refine dss_cons (f := b__law_mixed_0) (ds_set 2 sc__law_mixed.nd (de_op (od_add rfl) (de_op (od_add rfl) (de_op (od_mod) (de_var 0) (de_ix (ixd rfl hr.u1) (de_lst (da_cons (de_int) (da_cons (de_int) (da_cons (de_int) (da_cons (de_int) (da_nil)))))) (de_op (od_mod) (de_var 1) (de_int)))) (de_op (od_mul rfl) (de_int) (de_var 1))) (de_int)) rfl (Or.inl rfl)) ?_
  exact dss_one (f := b__law_mixed_1) (ds_ret (de_op (od_mod) (de_op (od_mul rfl) (de_op (od_mod) (de_op (od_mul rfl) (de_var 2) (de_var 2)) (de_int)) (de_int)) (de_int)))
theorem bp__law_mixed {K : PySem.W.Frag} (fd : FuncData) (F : FunD K d__law_mixed.name d__law_mixed.qual d__law_mixed.params d__law_mixed.body d__law_mixed.scope (d__law_mixed.dvs K) (d__law_mixed.kws K) (He.fAd K d__law_mixed.at_) fd) : Bnd K fd p__law_mixed 2 [] (fun ds _ => ds) :=
  bnd_pos F rfl (fun _ _ _ _ _ _ us hl => match us, hl with | [_, _], _ => rfl) 2 rfl
def b__law_digit_0 : Fs := sIf (tOf (eOp gEq (eOp gIx (eVar 0) (eC (.str "left"))) (eC (.int 0)))) (sFor (iRng1D (aCons (eC (.int 4)) aNil)) (gSet 2) (sSeq (sStore (eOp gAdd (eOp gIx (eVar 0) (eC (.str "turns"))) (eC (.int 1))) (eVar 0) (eC (.str "turns")))
    (sStore (eOp gAdd (eOp gMul (eOp gIx (eVar 0) (eC (.str "left"))) (eC (.int 2147483647))) (eCall (loc s__law_mixed) (aCons (eOp gIx (eVar 0) (eC (.str "cell"))) (aCons (eOp gIx (eVar 0) (eC (.str "turns"))) aNil)))) (eVar 0) (eC (.str "left"))))) sNil
def b__law_digit_1 : Fs := sAsg (eOp gMod (eOp gIx (eVar 0) (eC (.str "left"))) (eVar 1)) (gSet 3)
def b__law_digit_2 : Fs := sStore (eOp gFdv (eOp gIx (eVar 0) (eC (.str "left"))) (eVar 1)) (eVar 0) (eC (.str "left"))
def b__law_digit_3 : Fs := sRet (eVar 3)
def b__law_digit : Fs := sSeq b__law_digit_0 (sSeq b__law_digit_1 (sSeq b__law_digit_2 (b__law_digit_3)))
def s__law_digit : List D → Hd → Res D := runF 4 b__law_digit
theorem ok__law_digit {P : Program} {w : World} {K : PySem.W.Frag} {mg : Str → Option Value} {base : Heap} (c : Fct K mg base) : FDx P w K mg (tabsOf K tf) base d__law_digit p__law_digit 2 s__law_digit := by
  refine fd_ok (k := 1) (N := N__law_digit) (fb := b__law_digit) c.F__law_digit sc__law_digit fun cdv A outer s H E hr => ?_
  refine dss_cons (f := b__law_digit_0) (ds_if (dt_cmp (od_eq rfl hr.u64) (de_ix (ixd rfl hr.u1) (de_var 0) (de_str)) (de_int) (by first | rfl | exact nomark _)) (dss_one (ds_for (passes_of rfl) rfl (di_rng1 rfl c.f_range (da_cons (de_int) (da_nil))) (dg_name 2 sc__law_digit.nd) (dss_cons (ds_store hr.u1 (de_op (od_add rfl) (de_ix (ixd rfl hr.u1) (de_var 0) (de_str)) (de_int)) (de_var 0) (de_str))
    (dss_one (ds_store hr.u1 (de_op (od_add rfl) (de_op (od_mul rfl) (de_ix (ixd rfl hr.u1) (de_var 0) (de_str)) (de_int)) (de_call (gD := fun ds _ => ds) ((ok__law_mixed c).loc) (hr.mono (by decide)) rfl c.m__law_mixed (takes_of rfl rfl rfl rfl) bp__law_mixed (da_cons (de_ix (ixd rfl hr.u1) (de_var 0) (de_str)) (da_cons (de_ix (ixd rfl hr.u1) (de_var 0) (de_str)) (da_nil))) (al_cons (al_cons (al_nil))))) (de_var 0) (de_str)))))) (dss_nil)) ?_
  refine dss_cons (f := b__law_digit_1) (ds_set 3 sc__law_digit.nd (de_op (od_mod) (de_ix (ixd rfl hr.u1) (de_var 0) (de_str)) (de_var 1)) rfl (Or.inl rfl)) ?_
  refine dss_cons (f := b__law_digit_2) (ds_store hr.u1 (de_op (od_fdv) (de_ix (ixd rfl hr.u1) (de_var 0) (de_str)) (de_var 1)) (de_var 0) (de_str)) ?_
  exact dss_one (f := b__law_digit_3) (ds_ret (de_var 3))
theorem bp__law_digit {K : PySem.W.Frag} (fd : FuncData) (F : FunD K d__law_digit.name d__law_digit.qual d__law_digit.params d__law_digit.body d__law_digit.scope (d__law_digit.dvs K) (d__law_digit.kws K) (He.fAd K d__law_digit.at_) fd) : Bnd K fd p__law_digit 2 [] (fun ds _ => ds) :=
  bnd_pos F rfl (fun _ _ _ _ _ _ us hl => match us, hl with | [_, _], _ => rfl) 2 rfl
def b__law_triple_0 : Fs := sAsg (eTup (aCons (eC (.int 1)) (aCons (eC (.int 2)) (aCons (eC (.int 5)) aNil)))) (gSet 1)
def b__law_triple_1 : Fs := sFor (iOf (eVar 0)) (gSet 2) (sSeq (sAsg (eVar 1) (gUnp 3 (gsCons (gSet 3) (gsCons (gSet 4) (gsCons (gSet 5) gsNil)))))
    (sAsg (eIf (tOf (eOp gEq (eVar 2) (eC (.int 0)))) (eTup (aCons (eVar 3) (aCons (eVar 5) (aCons (eOp gSub (eOp gMul (eOp gMul (eC (.int 3)) (eVar 3)) (eVar 5)) (eVar 4)) aNil)))) (eTup (aCons (eVar 4) (aCons (eVar 5) (aCons (eOp gSub (eOp gMul (eOp gMul (eC (.int 3)) (eVar 4)) (eVar 5)) (eVar 3)) aNil))))) (gSet 1)))
def b__law_triple_2 : Fs := sRet (eVar 1)
def b__law_triple : Fs := sSeq b__law_triple_0 (sSeq b__law_triple_1 (b__law_triple_2))
def s__law_triple : List D → Hd → Res D := runF 6 b__law_triple
theorem ok__law_triple {P : Program} {w : World} {K : PySem.W.Frag} {mg : Str → Option Value} {base : Heap} (c : Fct K mg base) : FDx P w K mg (tabsOf K tf) base d__law_triple p__law_triple 1 s__law_triple := by
  refine fd_ok (k := 0) (N := N__law_triple) (fb := b__law_triple) c.F__law_triple sc__law_triple fun cdv A outer s H E hr => ?_
  refine dss_cons (f := b__law_triple_0) (ds_set 1 sc__law_triple.nd (de_tup (da_cons (de_int) (da_cons (de_int) (da_cons (de_int) (da_nil))))) rfl (Or.inl rfl)) ?_
  refine dss_cons (f := b__law_triple_1) (ds_for (passes_of rfl) rfl (di_of rfl (de_var 0)) (dg_name 2 sc__law_triple.nd) (dss_cons (ds_asg (de_var 1) (dg_unp rfl rfl (dgs_cons (dg_name 3 sc__law_triple.nd) (dgs_cons (dg_name 4 sc__law_triple.nd) (dgs_cons (dg_name 5 sc__law_triple.nd) (dgs_nil))))))
    (dss_one (ds_set 1 sc__law_triple.nd (de_if (dt_cmp (od_eq rfl hr.u64) (de_var 2) (de_int) (by first | rfl | exact nomark _)) (de_tup (da_cons (de_var 3) (da_cons (de_var 5) (da_cons (de_op (od_sub) (de_op (od_mul rfl) (de_op (od_mul rfl) (de_int) (de_var 3)) (de_var 5)) (de_var 4)) (da_nil))))) (de_tup (da_cons (de_var 4) (da_cons (de_var 5) (da_cons (de_op (od_sub) (de_op (od_mul rfl) (de_op (od_mul rfl) (de_int) (de_var 4)) (de_var 5)) (de_var 3)) (da_nil)))))) rfl (Or.inl rfl))))) ?_
  exact dss_one (f := b__law_triple_2) (ds_ret (de_var 1))
theorem bp__law_triple {K : PySem.W.Frag} (fd : FuncData) (F : FunD K d__law_triple.name d__law_triple.qual d__law_triple.params d__law_triple.body d__law_triple.scope (d__law_triple.dvs K) (d__law_triple.kws K) (He.fAd K d__law_triple.at_) fd) : Bnd K fd p__law_triple 1 [] (fun ds _ => ds) :=
  bnd_pos F rfl (fun _ _ _ _ _ _ us hl => match us, hl with | [_], _ => rfl) 1 rfl
def b_is_whole_0 : Fs := sRet (eAnd (eCall gIsi (aCons (eVar 0) (aCons (eC (.ty "int")) aNil))) (eAnd (eNot (eCall gIsi (aCons (eVar 0) (aCons (eC (.ty "bool")) aNil)))) (eChain gLe gLe (eVar 1) (eVar 0) (eVar 2))))
def b_is_whole : Fs := b_is_whole_0
def s_is_whole : List D → Hd → Res D := runF 3 b_is_whole
theorem ok_is_whole {P : Program} {w : World} {K : PySem.W.Frag} {mg : Str → Option Value} {base : Heap} (c : Fct K mg base) : FDx P w K mg (tabsOf K tf) base d_is_whole p_is_whole 1 s_is_whole := by
  refine fd_ok (k := 0) (N := N_is_whole) (fb := b_is_whole) c.F_is_whole sc_is_whole fun cdv A outer s H E hr => ?_
  exact dss_one (f := b_is_whole_0) (ds_ret (de_and (de_callB (cd_isi rfl) rfl c.f_isinstance PyProof.Rows.Boot.«isinstance» (da_cons (de_var 0) (da_cons (de_type rfl c.f_int PyProof.Rows.Boot.«int») (da_nil)))) (de_and (de_not (de_callB (cd_isi rfl) rfl c.f_isinstance PyProof.Rows.Boot.«isinstance» (da_cons (de_var 0) (da_cons (de_type rfl c.f_bool PyProof.Rows.Boot.«bool») (da_nil))))) (de_one (de_chain (od_le) (od_le) (de_var 1) (de_var 0) (de_var 2))))))
theorem bp_is_whole {K : PySem.W.Frag} (fd : FuncData) (F : FunD K d_is_whole.name d_is_whole.qual d_is_whole.params d_is_whole.body d_is_whole.scope (d_is_whole.dvs K) (d_is_whole.kws K) (He.fAd K d_is_whole.at_) fd) : Bnd K fd p_is_whole 3 [] (fun ds _ => ds) :=
  bnd_pos F rfl (fun _ _ _ _ _ _ us hl => match us, hl with | [_, _, _], _ => rfl) 3 rfl
def b_are_numbers_0 : Fs := sRet (eAnd (eCall gIsi (aCons (eVar 0) (aCons (eC (.ty "tuple")) aNil))) (eAnd (eOp gEq (eCall gLen (aCons (eVar 0) aNil)) (eC (.int 3))) (eCall gAll (aCons (eLc (iOf (eVar 0)) (gSet 1) tYesD (eCall (loc s_is_whole) (aCons (eVar 1) (aCons (eC (.int 1)) (aCons (eC (.int (100000000000000000000000000000000000000000000000000000000000000000000000000000000000000000000000000000000000000000000000000000000000000000000000000000000000000000000000000000000000000000000000000000000))) aNil)))) [1]) aNil))))
def b_are_numbers : Fs := b_are_numbers_0
def s_are_numbers : List D → Hd → Res D := runF 2 b_are_numbers
theorem ok_are_numbers {P : Program} {w : World} {K : PySem.W.Frag} {mg : Str → Option Value} {base : Heap} (c : Fct K mg base) : FDx P w K mg (tabsOf K tf) base d_are_numbers p_are_numbers 2 s_are_numbers := by
  refine fd_ok (k := 1) (N := N_are_numbers) (fb := b_are_numbers) c.F_are_numbers sc_are_numbers fun cdv A outer s H E hr => ?_
  exact dss_one (f := b_are_numbers_0) (ds_ret (de_and (de_callB (cd_isi rfl) rfl c.f_isinstance PyProof.Rows.Boot.«isinstance» (da_cons (de_var 0) (da_cons (de_type rfl c.f_tuple PyProof.Rows.Boot.«tuple») (da_nil)))) (de_and (de_cmp (od_eq rfl hr.u64) (de_callB (cd_len rfl) rfl c.f_len PyProof.Rows.Boot.«len» (da_cons (de_var 0) (da_nil))) (de_int) (by first | rfl | exact nomark _)) (de_one (de_callB (cd_all rfl rfl) rfl c.f_all PyProof.Rows.Boot.«all» (da_cons (de_lc (own := [("part", 1)]) (ts := [1]) rfl sc_are_numbers.nd (di_of rfl (de_var 0)) (blkOk_by (N := N_are_numbers) (sc := defScope st_are_numbers) (by decide +kernel)) (by decide) (fun _ _ _ _ _ => dg_name 1 sc_are_numbers.nd) (fun _ _ _ _ _ => dts_nil) (fun _ _ _ _ _ => de_call (gD := fun ds _ => ds) ((ok_is_whole c).loc) (hr.mono (by decide)) rfl c.m_is_whole takes_W0 bp_is_whole (da_cons (de_var 1) (da_cons (de_int) (da_cons (de_gint rfl c.i_MOST_NUMBER) (da_nil)))) (al_cons (al_cons (al_cons (al_nil)))))) (da_nil)))))))
theorem bp_are_numbers {K : PySem.W.Frag} (fd : FuncData) (F : FunD K d_are_numbers.name d_are_numbers.qual d_are_numbers.params d_are_numbers.body d_are_numbers.scope (d_are_numbers.dvs K) (d_are_numbers.kws K) (He.fAd K d_are_numbers.at_) fd) : Bnd K fd p_are_numbers 1 [] (fun ds _ => ds) :=
  bnd_pos F rfl (fun _ _ _ _ _ _ us hl => match us, hl with | [_], _ => rfl) 1 rfl
def b_does_solve_0 : Fs := sAsg (eCall gSum (aCons (eLc (iZip (aCons (eSl (eVar 0) oNone (oSome (eC (.int 3)))) (aCons (eVar 1) aNil))) (gUnp 2 (gsCons (gSet 3) (gsCons (gSet 4) gsNil))) tYesD (eOp gMul (eOp gMul (eVar 3) (eVar 4)) (eVar 4)) [3, 4]) aNil)) (gSet 2)
def b_does_solve_1 : Fs := sRet (eOp gEq (eVar 2) (eOp gMul (eOp gMul (eOp gMul (eOp gIx (eVar 0) (eC (.int 3))) (eOp gIx (eVar 1) (eC (.int 0)))) (eOp gIx (eVar 1) (eC (.int 1)))) (eOp gIx (eVar 1) (eC (.int 2)))))
def b_does_solve : Fs := sSeq b_does_solve_0 (b_does_solve_1)
def s_does_solve : List D → Hd → Res D := runF 5 b_does_solve
theorem ok_does_solve {P : Program} {w : World} {K : PySem.W.Frag} {mg : Str → Option Value} {base : Heap} (c : Fct K mg base) : FDx P w K mg (tabsOf K tf) base d_does_solve p_does_solve 1 s_does_solve := by
  refine fd_ok (k := 0) (N := N_does_solve) (fb := b_does_solve) c.F_does_solve sc_does_solve fun cdv A outer s H E hr => ?_
  refine dss_cons (f := b_does_solve_0) (ds_set 2 sc_does_solve.nd (de_callB (cd_sum rfl rfl) rfl c.f_sum PyProof.Rows.Boot.«sum» (da_cons (de_lc (own := [("part", 3), ("number", 4)]) (ts := [3, 4]) rfl sc_does_solve.nd (di_zip rfl rfl c.f_zip (da_cons (de_sl rfl (de_var 0) (do_none) (do_some (de_int))) (da_cons (de_var 1) (da_nil)))) (blkOk_by (N := N_does_solve) (sc := defScope st_does_solve) (by decide +kernel)) (by decide) (fun _ _ _ _ _ => dg_unp rfl rfl (dgs_cons (dg_name 3 sc_does_solve.nd) (dgs_cons (dg_name 4 sc_does_solve.nd) (dgs_nil)))) (fun _ _ _ _ _ => dts_nil) (fun _ _ _ _ _ => de_op (od_mul rfl) (de_op (od_mul rfl) (de_var 3) (de_var 4)) (de_var 4))) (da_nil))) rfl (Or.inl rfl)) ?_
  exact dss_one (f := b_does_solve_1) (ds_ret (de_cmp (od_eq rfl hr.u64) (de_var 2) (de_op (od_mul rfl) (de_op (od_mul rfl) (de_op (od_mul rfl) (de_ix (ixd rfl hr.u1) (de_var 0) (de_int)) (de_ix (ixd rfl hr.u1) (de_var 1) (de_int))) (de_ix (ixd rfl hr.u1) (de_var 1) (de_int))) (de_ix (ixd rfl hr.u1) (de_var 1) (de_int))) (by first | rfl | exact nomark _)))
theorem bp_does_solve {K : PySem.W.Frag} (fd : FuncData) (F : FunD K d_does_solve.name d_does_solve.qual d_does_solve.params d_does_solve.body d_does_solve.scope (d_does_solve.dvs K) (d_does_solve.kws K) (He.fAd K d_does_solve.at_) fd) : Bnd K fd p_does_solve 2 [] (fun ds _ => ds) :=
  bnd_pos F rfl (fun _ _ _ _ _ _ us hl => match us, hl with | [_, _], _ => rfl) 2 rfl
def b_wrong_triple_0 : Fs := sIf (tNotD (tOf (eCall (loc s_are_numbers) (aCons (eVar 0) aNil)))) (sRet (eLst (aCons (eC .non) aNil))) sNil
def b_wrong_triple_1 : Fs := sIf (tNotD (tOf (eChain gLe gLe (eOp gIx (eVar 0) (eC (.int 0))) (eOp gIx (eVar 0) (eC (.int 1))) (eOp gIx (eVar 0) (eC (.int 2)))))) (sRet (eLst (aCons (eC (.str "order")) aNil))) sNil
def b_wrong_triple_2 : Fs := sRet (eIf (tOf (eCall (loc s_does_solve) (aCons (eC (.tup [(.int (1)), (.int (1)), (.int (1)), (.int (3))])) (aCons (eVar 0) aNil)))) (eLst aNil) (eLst (aCons (eC (.str "sum")) aNil)))
def b_wrong_triple : Fs := sSeq b_wrong_triple_0 (sSeq b_wrong_triple_1 (b_wrong_triple_2))
def s_wrong_triple : List D → Hd → Res D := runF 1 b_wrong_triple
theorem ok_wrong_triple {P : Program} {w : World} {K : PySem.W.Frag} {mg : Str → Option Value} {base : Heap} (c : Fct K mg base) : FDx P w K mg (tabsOf K tf) base d_wrong_triple p_wrong_triple 3 s_wrong_triple := by
  refine fd_ok (k := 2) (N := N_wrong_triple) (fb := b_wrong_triple) c.F_wrong_triple sc_wrong_triple fun cdv A outer s H E hr => ?_
  refine dss_cons (f := b_wrong_triple_0) (ds_if (dt_not (dt_val (de_call (gD := fun ds _ => ds) ((ok_are_numbers c).loc) (hr.mono (by decide)) rfl c.m_are_numbers (takes_of rfl rfl rfl rfl) bp_are_numbers (da_cons (de_var 0) (da_nil)) (al_cons (al_nil))))) (dss_one (ds_ret (de_lst (da_cons (de_non) (da_nil))))) (dss_nil)) ?_
  refine dss_cons (f := b_wrong_triple_1) (ds_if (dt_not (dt_chain (od_le) (od_le) (de_ix (ixd rfl hr.u1) (de_var 0) (de_int)) (de_ix (ixd rfl hr.u1) (de_var 0) (de_int)) (de_ix (ixd rfl hr.u1) (de_var 0) (de_int)))) (dss_one (ds_ret (de_lst (da_cons (de_str) (da_nil))))) (dss_nil)) ?_
  exact dss_one (f := b_wrong_triple_2) (ds_ret (de_if (dt_val (de_call (gD := fun ds _ => ds) ((ok_does_solve c).loc) (hr.mono (by decide)) rfl c.m_does_solve (takes_of rfl rfl rfl rfl) bp_does_solve (da_cons (de_glit rfl rfl c.l_MARKOV) (da_cons (de_var 0) (da_nil))) (al_cons (al_cons (al_nil))))) (de_lst (da_nil)) (de_lst (da_cons (de_str) (da_nil)))))
theorem bp_wrong_triple {K : PySem.W.Frag} (fd : FuncData) (F : FunD K d_wrong_triple.name d_wrong_triple.qual d_wrong_triple.params d_wrong_triple.body d_wrong_triple.scope (d_wrong_triple.dvs K) (d_wrong_triple.kws K) (He.fAd K d_wrong_triple.at_) fd) : Bnd K fd p_wrong_triple 1 [] (fun ds _ => ds) :=
  bnd_pos F rfl (fun _ _ _ _ _ _ us hl => match us, hl with | [_], _ => rfl) 1 rfl
def b_need_triple_0 : Fs := sAsg (eCall (loc s_wrong_triple) (aCons (eVar 0) aNil)) (gSet 1)
def b_need_triple_1 : Fs := sIf (tOf (eOp gNe (eVar 1) (eLst aNil))) (sRaise "BadTriple" "place" (eOp gIx (eVar 1) (eC (.int 0)))) sNil
def b_need_triple : Fs := sSeq b_need_triple_0 (b_need_triple_1)
def s_need_triple : List D → Hd → Res D := runF 2 b_need_triple
theorem ok_need_triple {P : Program} {w : World} {K : PySem.W.Frag} {mg : Str → Option Value} {base : Heap} (c : Fct K mg base) : FDx P w K mg (tabsOf K tf) base d_need_triple p_need_triple 4 s_need_triple := by
  refine fd_ok (k := 3) (N := N_need_triple) (fb := b_need_triple) c.F_need_triple sc_need_triple fun cdv A outer s H E hr => ?_
  refine dss_cons (f := b_need_triple_0) (ds_set 1 sc_need_triple.nd (de_call (gD := fun ds _ => ds) ((ok_wrong_triple c).loc) (hr.mono (by decide)) rfl c.m_wrong_triple (takes_of rfl rfl rfl rfl) bp_wrong_triple (da_cons (de_var 0) (da_nil)) (al_cons (al_nil))) rfl (Or.inl rfl)) ?_
  exact dss_one (f := b_need_triple_1) (ds_if (dt_cmp (od_ne rfl hr.u64) (de_var 1) (de_lst (da_nil)) (by first | rfl | exact nomark _)) (dss_one (ds_raise rfl rfl XBV c.x_BadTriple hr (takes_of rfl rfl rfl rfl) (de_ix (ixd rfl hr.u1) (de_var 1) (de_int)) rfl)) (dss_nil))
theorem bk_need_triple_0_triple {K : PySem.W.Frag} (fd : FuncData) (F : FunD K d_need_triple.name d_need_triple.qual d_need_triple.params d_need_triple.body d_need_triple.scope (d_need_triple.dvs K) (d_need_triple.kws K) (He.fAd K d_need_triple.at_) fd) : Bnd K fd p_need_triple 0 ["triple"] (fun ds ws => gI [0] ds ws) :=
  bnd_kw F rfl 0 ["triple"] [0] rfl (by decide) fun _ _ _ _ _ _ us ws hl hw => match us, ws, hl, hw with | [], [_], _, _ => rfl
theorem bp_need_triple {K : PySem.W.Frag} (fd : FuncData) (F : FunD K d_need_triple.name d_need_triple.qual d_need_triple.params d_need_triple.body d_need_triple.scope (d_need_triple.dvs K) (d_need_triple.kws K) (He.fAd K d_need_triple.at_) fd) : Bnd K fd p_need_triple 1 [] (fun ds _ => ds) :=
  bnd_pos F rfl (fun _ _ _ _ _ _ us hl => match us, hl with | [_], _ => rfl) 1 rfl
def b_need_high_0 : Fs := sExpr (eCall (loc s_need_triple) (aCons (eVar 0) aNil))
def b_need_high_1 : Fs := sIf (tOf (eOp (gInA false) (eVar 0) (eC (.tup [(.tup [(.int (1)), (.int (1)), (.int (1))]), (.tup [(.int (1)), (.int (1)), (.int (2))])])))) (sRaise "NoSuch" "value" (eVar 0)) sNil
def b_need_high : Fs := sSeq b_need_high_0 (b_need_high_1)
def s_need_high : List D → Hd → Res D := runF 1 b_need_high
theorem ok_need_high {P : Program} {w : World} {K : PySem.W.Frag} {mg : Str → Option Value} {base : Heap} (c : Fct K mg base) : FDx P w K mg (tabsOf K tf) base d_need_high p_need_high 5 s_need_high := by
  refine fd_ok (k := 4) (N := N_need_high) (fb := b_need_high) c.F_need_high sc_need_high fun cdv A outer s H E hr => ?_
  refine dss_cons (f := b_need_high_0) (ds_expr (de_call (gD := fun ds _ => ds) ((ok_need_triple c).loc) (hr.mono (by decide)) rfl c.m_need_triple (takes_of rfl rfl rfl rfl) bp_need_triple (da_cons (de_var 0) (da_nil)) (al_cons (al_nil)))) ?_
  exact dss_one (f := b_need_high_1) (ds_if (dt_cmp (od_inA rfl hr.u65) (de_var 0) (de_glit rfl rfl c.l_LOW) (by first | rfl | exact nomark _)) (dss_one (ds_raise rfl rfl XBL c.x_NoSuch hr (takes_of rfl rfl rfl rfl) (de_var 0) rfl)) (dss_nil))
theorem bp_need_high {K : PySem.W.Frag} (fd : FuncData) (F : FunD K d_need_high.name d_need_high.qual d_need_high.params d_need_high.body d_need_high.scope (d_need_high.dvs K) (d_need_high.kws K) (He.fAd K d_need_high.at_) fd) : Bnd K fd p_need_high 1 [] (fun ds _ => ds) :=
  bnd_pos F rfl (fun _ _ _ _ _ _ us hl => match us, hl with | [_], _ => rfl) 1 rfl
def b_own_path_0 : Fs := sAsg (eLst aNil) (gSet 1)
def b_own_path_1 : Fs := sWhile (tOf (eOp gNe (eVar 0) (eC (.tup [(.int (1)), (.int (2)), (.int (5))])))) (sSeq (sAsg (eVar 0) (gUnp 3 (gsCons (gSet 2) (gsCons (gSet 3) (gsCons (gSet 4) gsNil)))))
    (sSeq (sAsg (eOp gSub (eOp gMul (eOp gMul (eC (.int 3)) (eVar 2)) (eVar 3)) (eVar 4)) (gSet 5))
    (sSeq (sExpr (eMeth "list" mAppend (eVar 1) (aCons (eIf (tOf (eOp gGt (eVar 5) (eVar 2))) (eC (.int 0)) (eC (.int 1))) aNil)))
    (sAsg (eCall gTuple (aCons (eCall gSorted (aCons (eLst (aCons (eVar 5) (aCons (eVar 2) (aCons (eVar 3) aNil)))) aNil)) aNil)) (gSet 0)))))
def b_own_path_2 : Fs := sRet (eCall gTuple (aCons (eRev (eVar 1)) aNil))
def b_own_path : Fs := sSeq b_own_path_0 (sSeq b_own_path_1 (b_own_path_2))
def s_own_path : List D → Hd → Res D := runF 6 b_own_path
theorem ok_own_path {P : Program} {w : World} {K : PySem.W.Frag} {mg : Str → Option Value} {base : Heap} (c : Fct K mg base) : FDx P w K mg (tabsOf K tf) base d_own_path p_own_path 1 s_own_path := by
  refine fd_ok (k := 0) (N := N_own_path) (fb := b_own_path) c.F_own_path sc_own_path fun cdv A outer s H E hr => ?_
  refine dss_cons (f := b_own_path_0) (ds_set 1 sc_own_path.nd (de_lst (da_nil)) rfl (Or.inl rfl)) ?_
  refine dss_cons (f := b_own_path_1) (ds_while (passes_of rfl) (dt_cmp (od_ne rfl hr.u64) (de_var 0) (de_glit rfl rfl c.l_TOP) (by first | rfl | exact nomark _)) (dss_cons (ds_asg (de_var 0) (dg_unp rfl rfl (dgs_cons (dg_name 2 sc_own_path.nd) (dgs_cons (dg_name 3 sc_own_path.nd) (dgs_cons (dg_name 4 sc_own_path.nd) (dgs_nil))))))
    (dss_cons (ds_set 5 sc_own_path.nd (de_op (od_sub) (de_op (od_mul rfl) (de_op (od_mul rfl) (de_int) (de_var 2)) (de_var 3)) (de_var 4)) rfl (Or.inl rfl))
    (dss_cons (ds_expr (de_meth rfl F.plainAttrs_list F.slot_list_append F.type_list_append md_append (de_var 1) (da_cons (de_if (dt_cmp (od_gt) (de_var 5) (de_var 2) (by first | rfl | exact nomark _)) (de_int) (de_int)) (da_nil))))
    (dss_one (ds_set 0 sc_own_path.nd (de_callT (cd_tuple rfl) rfl c.f_tuple PyProof.Rows.Boot.«tuple» (da_cons (de_callB (cd_sorted rfl) rfl c.f_sorted PyProof.Rows.Boot.«sorted» (da_cons (de_lst (da_cons (de_var 5) (da_cons (de_var 2) (da_cons (de_var 3) (da_nil))))) (da_nil))) (da_nil))) rfl (Or.inl rfl))))))) ?_
  exact dss_one (f := b_own_path_2) (ds_ret (de_callT (cd_tuple rfl) rfl c.f_tuple PyProof.Rows.Boot.«tuple» (da_cons (de_rev rfl (de_var 1)) (da_nil))))
theorem bp_own_path {K : PySem.W.Frag} (fd : FuncData) (F : FunD K d_own_path.name d_own_path.qual d_own_path.params d_own_path.body d_own_path.scope (d_own_path.dvs K) (d_own_path.kws K) (He.fAd K d_own_path.at_) fd) : Bnd K fd p_own_path 1 [] (fun ds _ => ds) :=
  bnd_pos F rfl (fun _ _ _ _ _ _ us hl => match us, hl with | [_], _ => rfl) 1 rfl
def b_path_of_0 : Fs := sExpr (eCall (loc s_need_high) (aCons (eVar 0) aNil))
def b_path_of_1 : Fs := sRet (eCall (loc s_own_path) (aCons (eVar 0) aNil))
def b_path_of : Fs := sSeq b_path_of_0 (b_path_of_1)
def s_path_of : List D → Hd → Res D := runF 1 b_path_of
theorem ok_path_of {P : Program} {w : World} {K : PySem.W.Frag} {mg : Str → Option Value} {base : Heap} (c : Fct K mg base) : FDx P w K mg (tabsOf K tf) base d_path_of p_path_of 6 s_path_of := by
  refine fd_ok (k := 5) (N := N_path_of) (fb := b_path_of) c.F_path_of sc_path_of fun cdv A outer s H E hr => ?_
  refine dss_cons (f := b_path_of_0) (ds_expr (de_call (gD := fun ds _ => ds) ((ok_need_high c).loc) (hr.mono (by decide)) rfl c.m_need_high (takes_of rfl rfl rfl rfl) bp_need_high (da_cons (de_var 0) (da_nil)) (al_cons (al_nil)))) ?_
  exact dss_one (f := b_path_of_1) (ds_ret (de_call (gD := fun ds _ => ds) ((ok_own_path c).loc) (hr.mono (by decide)) rfl c.m_own_path (takes_of rfl rfl rfl rfl) bp_own_path (da_cons (de_var 0) (da_nil)) (al_cons (al_nil))))
theorem bk_path_of_0_triple {K : PySem.W.Frag} (fd : FuncData) (F : FunD K d_path_of.name d_path_of.qual d_path_of.params d_path_of.body d_path_of.scope (d_path_of.dvs K) (d_path_of.kws K) (He.fAd K d_path_of.at_) fd) : Bnd K fd p_path_of 0 ["triple"] (fun ds ws => gI [0] ds ws) :=
  bnd_kw F rfl 0 ["triple"] [0] rfl (by decide) fun _ _ _ _ _ _ us ws hl hw => match us, ws, hl, hw with | [], [_], _, _ => rfl
def b_next_triple_0 : Fs := sAsg (eVar 0) (gUnp 3 (gsCons (gSet 2) (gsCons (gSet 3) (gsCons (gSet 4) gsNil))))
def b_next_triple_1 : Fs := sIf (tOf (eOp gEq (eVar 1) (eC (.int 0)))) (sRet (eTup (aCons (eVar 2) (aCons (eVar 4) (aCons (eOp gSub (eOp gMul (eOp gMul (eC (.int 3)) (eVar 2)) (eVar 4)) (eVar 3)) aNil))))) sNil
def b_next_triple_2 : Fs := sRet (eTup (aCons (eVar 3) (aCons (eVar 4) (aCons (eOp gSub (eOp gMul (eOp gMul (eC (.int 3)) (eVar 3)) (eVar 4)) (eVar 2)) aNil))))
def b_next_triple : Fs := sSeq b_next_triple_0 (sSeq b_next_triple_1 (b_next_triple_2))
def s_next_triple : List D → Hd → Res D := runF 5 b_next_triple
theorem ok_next_triple {P : Program} {w : World} {K : PySem.W.Frag} {mg : Str → Option Value} {base : Heap} (c : Fct K mg base) : FDx P w K mg (tabsOf K tf) base d_next_triple p_next_triple 1 s_next_triple := by
  refine fd_ok (k := 0) (N := N_next_triple) (fb := b_next_triple) c.F_next_triple sc_next_triple fun cdv A outer s H E hr => ?_
  refine dss_cons (f := b_next_triple_0) (ds_asg (de_var 0) (dg_unp rfl rfl (dgs_cons (dg_name 2 sc_next_triple.nd) (dgs_cons (dg_name 3 sc_next_triple.nd) (dgs_cons (dg_name 4 sc_next_triple.nd) (dgs_nil)))))) ?_
  refine dss_cons (f := b_next_triple_1) (ds_if (dt_cmp (od_eq rfl hr.u64) (de_var 1) (de_int) (by first | rfl | exact nomark _)) (dss_one (ds_ret (de_tup (da_cons (de_var 2) (da_cons (de_var 4) (da_cons (de_op (od_sub) (de_op (od_mul rfl) (de_op (od_mul rfl) (de_int) (de_var 2)) (de_var 4)) (de_var 3)) (da_nil))))))) (dss_nil)) ?_
  exact dss_one (f := b_next_triple_2) (ds_ret (de_tup (da_cons (de_var 3) (da_cons (de_var 4) (da_cons (de_op (od_sub) (de_op (od_mul rfl) (de_op (od_mul rfl) (de_int) (de_var 3)) (de_var 4)) (de_var 2)) (da_nil))))))
theorem bp_next_triple {K : PySem.W.Frag} (fd : FuncData) (F : FunD K d_next_triple.name d_next_triple.qual d_next_triple.params d_next_triple.body d_next_triple.scope (d_next_triple.dvs K) (d_next_triple.kws K) (He.fAd K d_next_triple.at_) fd) : Bnd K fd p_next_triple 2 [] (fun ds _ => ds) :=
  bnd_pos F rfl (fun _ _ _ _ _ _ us hl => match us, hl with | [_, _], _ => rfl) 2 rfl
def b_triple_at_0 : Fs := sIf (tOrD (tNotD (tOf (eCall gIsi (aCons (eVar 0) (aCons (eC (.ty "tuple")) aNil))))) (tOf (eOp gGt (eCall gLen (aCons (eVar 0) aNil)) (eC (.int (300)))))) (sRaise "BadRow" "place" (eC .non)) sNil
def b_triple_at_1 : Fs := sFor (iEnm (eVar 0)) (gUnp 2 (gsCons (gSet 1) (gsCons (gSet 2) gsNil))) (sIf (tNotD (tOf (eCall (loc s_is_whole) (aCons (eVar 2) (aCons (eC (.int 0)) (aCons (eC (.int 1)) aNil)))))) (sRaise "BadRow" "place" (eVar 1)) sNil)
def b_triple_at_2 : Fs := sAsg (eC (.tup [(.int (1)), (.int (2)), (.int (5))])) (gSet 3)
def b_triple_at_3 : Fs := sFor (iOf (eVar 0)) (gSet 2) (sSeq (sAsg (eCall (loc s_next_triple) (aCons (eVar 3) (aCons (eVar 2) aNil))) (gSet 3))
    (sIf (tOf (eOp gGt (eOp gIx (eVar 3) (eC (.int 2))) (eC (.int (100000000000000000000000000000000000000000000000000000000000000000000000000000000000000000000000000000000000000000000000000000000000000000000000000000000000000000000000000000000000000000000000000000000))))) (sRaise "TooMany" "most" (eC (.int (200)))) sNil))
def b_triple_at_4 : Fs := sRet (eVar 3)
def b_triple_at : Fs := sSeq b_triple_at_0 (sSeq b_triple_at_1 (sSeq b_triple_at_2 (sSeq b_triple_at_3 (b_triple_at_4))))
def s_triple_at : List D → Hd → Res D := runF 4 b_triple_at
theorem ok_triple_at {P : Program} {w : World} {K : PySem.W.Frag} {mg : Str → Option Value} {base : Heap} (c : Fct K mg base) : FDx P w K mg (tabsOf K tf) base d_triple_at p_triple_at 2 s_triple_at := by
  refine fd_ok (k := 1) (N := N_triple_at) (fb := b_triple_at) c.F_triple_at sc_triple_at fun cdv A outer s H E hr => ?_
  refine dss_cons (f := b_triple_at_0) (ds_if (dt_bool (dw_or (dt_not (dt_val (de_callB (cd_isi rfl) rfl c.f_isinstance PyProof.Rows.Boot.«isinstance» (da_cons (de_var 0) (da_cons (de_type rfl c.f_tuple PyProof.Rows.Boot.«tuple») (da_nil)))))) (dw_or1 (dt_cmp (od_gt) (de_callB (cd_len rfl) rfl c.f_len PyProof.Rows.Boot.«len» (da_cons (de_var 0) (da_nil))) (de_gint rfl c.i_MOST_PATH) (by first | rfl | exact nomark _))))) (dss_one (ds_raise rfl rfl XBV c.x_BadRow hr (takes_of rfl rfl rfl rfl) (de_non) rfl)) (dss_nil)) ?_
  refine dss_cons (f := b_triple_at_1) (ds_for (passes_of rfl) rfl (di_enum rfl rfl c.f_enumerate (de_var 0)) (dg_unp rfl rfl (dgs_cons (dg_name 1 sc_triple_at.nd) (dgs_cons (dg_name 2 sc_triple_at.nd) (dgs_nil)))) (dss_one (ds_if (dt_not (dt_val (de_call (gD := fun ds _ => ds) ((ok_is_whole c).loc) (hr.mono (by decide)) rfl c.m_is_whole (takes_of rfl rfl rfl rfl) bp_is_whole (da_cons (de_var 2) (da_cons (de_int) (da_cons (de_int) (da_nil)))) (al_cons (al_cons (al_cons (al_nil))))))) (dss_one (ds_raise rfl rfl XBV c.x_BadRow hr (takes_of rfl rfl rfl rfl) (de_var 1) rfl)) (dss_nil)))) ?_
  refine dss_cons (f := b_triple_at_2) (ds_set 3 sc_triple_at.nd (de_glit rfl rfl c.l_TOP) rfl (Or.inl rfl)) ?_
  refine dss_cons (f := b_triple_at_3) (ds_for (passes_of rfl) rfl (di_of rfl (de_var 0)) (dg_name 2 sc_triple_at.nd) (dss_cons (ds_set 3 sc_triple_at.nd (de_call (gD := fun ds _ => ds) ((ok_next_triple c).loc) (hr.mono (by decide)) rfl c.m_next_triple (takes_of rfl rfl rfl rfl) bp_next_triple (da_cons (de_var 3) (da_cons (de_var 2) (da_nil))) (al_cons (al_cons (al_nil)))) rfl (Or.inl rfl))
    (dss_one (ds_if (dt_cmp (od_gt) (de_ix (ixd rfl hr.u1) (de_var 3) (de_int)) (de_gint rfl c.i_MOST_NUMBER) (by first | rfl | exact nomark _)) (dss_one (ds_raise rfl rfl XBO c.x_TooMany hr (takes_of rfl rfl rfl rfl) (de_gint rfl c.i_MOST_DIGITS) rfl)) (dss_nil))))) ?_
  exact dss_one (f := b_triple_at_4) (ds_ret (de_var 3))
theorem bk_triple_at_0_path {K : PySem.W.Frag} (fd : FuncData) (F : FunD K d_triple_at.name d_triple_at.qual d_triple_at.params d_triple_at.body d_triple_at.scope (d_triple_at.dvs K) (d_triple_at.kws K) (He.fAd K d_triple_at.at_) fd) : Bnd K fd p_triple_at 0 ["path"] (fun ds ws => gI [0] ds ws) :=
  bnd_kw F rfl 0 ["path"] [0] rfl (by decide) fun _ _ _ _ _ _ us ws hl hw => match us, ws, hl, hw with | [], [_], _, _ => rfl
def b_need_most_0 : Fs := sIf (tNotD (tOf (eCall (loc s_is_whole) (aCons (eVar 0) (aCons (eC (.int 1)) (aCons (eC (.int (1000000000000000000000000000000000000000000000000000000000000))) aNil)))))) (sRaise "BadNumber" "value" (eVar 0)) sNil
def b_need_most : Fs := b_need_most_0
def s_need_most : List D → Hd → Res D := runF 1 b_need_most
theorem ok_need_most {P : Program} {w : World} {K : PySem.W.Frag} {mg : Str → Option Value} {base : Heap} (c : Fct K mg base) : FDx P w K mg (tabsOf K tf) base d_need_most p_need_most 2 s_need_most := by
  refine fd_ok (k := 1) (N := N_need_most) (fb := b_need_most) c.F_need_most sc_need_most fun cdv A outer s H E hr => ?_
  exact dss_one (f := b_need_most_0) (ds_if (dt_not (dt_val (de_call (gD := fun ds _ => ds) ((ok_is_whole c).loc) (hr.mono (by decide)) rfl c.m_is_whole (takes_of rfl rfl rfl rfl) bp_is_whole (da_cons (de_var 0) (da_cons (de_int) (da_cons (de_gint rfl c.i_MOST_LISTED) (da_nil)))) (al_cons (al_cons (al_cons (al_nil))))))) (dss_one (ds_raise rfl rfl XBV c.x_BadNumber hr (takes_of rfl rfl rfl rfl) (de_var 0) rfl)) (dss_nil))
theorem bp_need_most {K : PySem.W.Frag} (fd : FuncData) (F : FunD K d_need_most.name d_need_most.qual d_need_most.params d_need_most.body d_need_most.scope (d_need_most.dvs K) (d_need_most.kws K) (He.fAd K d_need_most.at_) fd) : Bnd K fd p_need_most 1 [] (fun ds _ => ds) :=
  bnd_pos F rfl (fun _ _ _ _ _ _ us hl => match us, hl with | [_], _ => rfl) 1 rfl
def b_own_triples_0 : Fs := sAsg (eLc (iOf (eC (.tup [(.tup [(.int (1)), (.int (1)), (.int (1))]), (.tup [(.int (1)), (.int (1)), (.int (2))])]))) (gSet 4) (tOf (eOp gLe (eOp gIx (eVar 4) (eC (.int 2))) (eVar 0))) (eVar 4) [4]) (gSet 1)
def b_own_triples_1 : Fs := sAsg (eIf (tOf (eOp gGe (eVar 0) (eOp gIx (eC (.tup [(.int (1)), (.int (2)), (.int (5))])) (eC (.int 2))))) (eLst (aCons (eC (.tup [(.int (1)), (.int (2)), (.int (5))])) aNil)) (eLst aNil)) (gSet 2)
def b_own_triples_2 : Fs := sWhile (tOf (eOp gNe (eVar 2) (eLst aNil))) (sSeq (sAsg (eMeth "list" mPop (eVar 2) aNil) (gSet 3))
    (sSeq (sExpr (eMeth "list" mAppend (eVar 1) (aCons (eVar 3) aNil)))
    (sExpr (eMeth "list" mExtend (eVar 2) (aCons (eLc (iOf (eTup (aCons (eCall (loc s_next_triple) (aCons (eVar 3) (aCons (eC (.int 0)) aNil))) (aCons (eCall (loc s_next_triple) (aCons (eVar 3) (aCons (eC (.int 1)) aNil))) aNil)))) (gSet 5) (tOf (eOp gLe (eOp gIx (eVar 5) (eC (.int 2))) (eVar 0))) (eVar 5) [5]) aNil)))))
def b_own_triples_3 : Fs := sRet (eCall gSortR1 (aCons (eVar 1) aNil))
def b_own_triples : Fs := sSeq b_own_triples_0 (sSeq b_own_triples_1 (sSeq b_own_triples_2 (b_own_triples_3)))
def s_own_triples : List D → Hd → Res D := runF 6 b_own_triples
theorem ok_own_triples {P : Program} {w : World} {K : PySem.W.Frag} {mg : Str → Option Value} {base : Heap} (c : Fct K mg base) : FDx P w K mg (tabsOf K tf) base d_own_triples p_own_triples 2 s_own_triples := by
  refine fd_okC (k := 1) (N := N_own_triples) (fb := b_own_triples) c.F_own_triples sc_own_triples fun A outer s H E hr => ?_
  refine dss_cons (f := b_own_triples_0) (ds_setLc 1 (own := [("triple", 4)]) (ts := [4]) rfl sc_own_triples.nd rfl rfl (sw_true rfl rfl rfl (by decide +kernel)) (di_of rfl (de_glit rfl rfl c.l_LOW)) (blkOk_by (N := N_own_triples) (sc := defScope st_own_triples) (by decide +kernel)) (by decide) (fun _ _ _ _ _ => dg_name 4 sc_own_triples.nd) (fun _ _ _ _ _ => dts_one (dt_cmp (od_le) (de_ix (ixd rfl hr.u1) (de_var 4) (de_int)) (de_var 0) (by first | rfl | exact nomark _))) (fun _ _ _ _ _ => de_var 4)) ?_
  refine dss_cons (f := b_own_triples_1) (ds_set 2 sc_own_triples.nd (de_if (dt_cmp (od_ge) (de_var 0) (de_ix (ixd rfl hr.u1) (de_glit rfl rfl c.l_TOP) (de_int)) (by first | rfl | exact nomark _)) (de_lst (da_cons (de_glit rfl rfl c.l_TOP) (da_nil))) (de_lst (da_nil))) rfl (Or.inl rfl)) ?_
  refine dss_cons (f := b_own_triples_2) (ds_while (passes_of rfl) (dt_cmp (od_ne rfl hr.u64) (de_var 2) (de_lst (da_nil)) (by first | rfl | exact nomark _)) (dss_cons (ds_set 3 sc_own_triples.nd (de_meth0 rfl F.plainAttrs_list F.slot_list_pop F.type_list_pop md_pop (de_var 2)) rfl (Or.inl rfl))
    (dss_cons (ds_expr (de_meth rfl F.plainAttrs_list F.slot_list_append F.type_list_append md_append (de_var 1) (da_cons (de_var 3) (da_nil))))
    (dss_one (ds_expr (de_meth rfl F.plainAttrs_list F.slot_list_extend F.type_list_extend md_extend (de_var 2) (da_cons (de_lc (own := [("near", 5)]) (ts := [5]) rfl sc_own_triples.nd (di_of rfl (de_tup (da_cons (de_call (gD := fun ds _ => ds) ((ok_next_triple c).loc) (hr.mono (by decide)) rfl c.m_next_triple (takes_of rfl rfl rfl rfl) bp_next_triple (da_cons (de_var 3) (da_cons (de_int) (da_nil))) (al_cons (al_cons (al_nil)))) (da_cons (de_call (gD := fun ds _ => ds) ((ok_next_triple c).loc) (hr.mono (by decide)) rfl c.m_next_triple (takes_of rfl rfl rfl rfl) bp_next_triple (da_cons (de_var 3) (da_cons (de_int) (da_nil))) (al_cons (al_cons (al_nil)))) (da_nil))))) (blkOk_by (N := N_own_triples) (sc := defScope st_own_triples) (by decide +kernel)) (by decide) (fun _ _ _ _ _ => dg_name 5 sc_own_triples.nd) (fun _ _ _ _ _ => dts_one (dt_cmp (od_le) (de_ix (ixd rfl hr.u1) (de_var 5) (de_int)) (de_var 0) (by first | rfl | exact nomark _))) (fun _ _ _ _ _ => de_var 5)) (da_nil)))))))) ?_
  exact dss_one (f := b_own_triples_3) (ds_ret (de_sortR (a := "triple") (da_cons (de_var 1) (da_nil)) hr rfl c.f_sorted (c.tb _ (List.mem_of_getElem? (i := 0) rfl)) rfl (tabs_mem (List.mem_of_getElem? (i := 0) rfl)) (tabs_one c.nd (List.mem_of_getElem? (i := 0) rfl)) (lamK_by (sc := defScope st_own_triples) (by decide +kernel))))
theorem bp_own_triples {K : PySem.W.Frag} (fd : FuncData) (F : FunD K d_own_triples.name d_own_triples.qual d_own_triples.params d_own_triples.body d_own_triples.scope (d_own_triples.dvs K) (d_own_triples.kws K) (He.fAd K d_own_triples.at_) fd) : Bnd K fd p_own_triples 1 [] (fun ds _ => ds) :=
  bnd_pos F rfl (fun _ _ _ _ _ _ us hl => match us, hl with | [_], _ => rfl) 1 rfl
def b_is_markov_0 : Fs := sExpr (eCall (loc s_need_most) (aCons (eVar 0) aNil))
def b_is_markov_1 : Fs := sRet (eCall gAny (aCons (eLc (iOf (eCall (loc s_own_triples) (aCons (eVar 0) aNil))) (gSet 1) tYesD (eOp gEq (eOp gIx (eVar 1) (eC (.int 2))) (eVar 0)) [1]) aNil))
def b_is_markov : Fs := sSeq b_is_markov_0 (b_is_markov_1)
def s_is_markov : List D → Hd → Res D := runF 2 b_is_markov
theorem ok_is_markov {P : Program} {w : World} {K : PySem.W.Frag} {mg : Str → Option Value} {base : Heap} (c : Fct K mg base) : FDx P w K mg (tabsOf K tf) base d_is_markov p_is_markov 3 s_is_markov := by
  refine fd_ok (k := 2) (N := N_is_markov) (fb := b_is_markov) c.F_is_markov sc_is_markov fun cdv A outer s H E hr => ?_
  refine dss_cons (f := b_is_markov_0) (ds_expr (de_call (gD := fun ds _ => ds) ((ok_need_most c).loc) (hr.mono (by decide)) rfl c.m_need_most (takes_of rfl rfl rfl rfl) bp_need_most (da_cons (de_var 0) (da_nil)) (al_cons (al_nil)))) ?_
  exact dss_one (f := b_is_markov_1) (ds_ret (de_callB (cd_any rfl rfl) rfl c.f_any PyProof.Rows.Boot.«any» (da_cons (de_lc (own := [("triple", 1)]) (ts := [1]) rfl sc_is_markov.nd (di_of rfl (de_call (gD := fun ds _ => ds) ((ok_own_triples c).loc) (hr.mono (by decide)) rfl c.m_own_triples (takes_of rfl rfl rfl rfl) bp_own_triples (da_cons (de_var 0) (da_nil)) (al_cons (al_nil)))) (blkOk_by (N := N_is_markov) (sc := defScope st_is_markov) (by decide +kernel)) (by decide) (fun _ _ _ _ _ => dg_name 1 sc_is_markov.nd) (fun _ _ _ _ _ => dts_nil) (fun _ _ _ _ _ => de_cmp (od_eq rfl hr.u64) (de_ix (ixd rfl hr.u1) (de_var 1) (de_int)) (de_var 0) (by first | rfl | exact nomark _))) (da_nil))))
theorem bp_is_markov {K : PySem.W.Frag} (fd : FuncData) (F : FunD K d_is_markov.name d_is_markov.qual d_is_markov.params d_is_markov.body d_is_markov.scope (d_is_markov.dvs K) (d_is_markov.kws K) (He.fAd K d_is_markov.at_) fd) : Bnd K fd p_is_markov 1 [] (fun ds _ => ds) :=
  bnd_pos F rfl (fun _ _ _ _ _ _ us hl => match us, hl with | [_], _ => rfl) 1 rfl
def b_triples_of_0 : Fs := sExpr (eCall (loc s_need_most) (aCons (eVar 0) aNil))
def b_triples_of_1 : Fs := sRet (eCall gTuple (aCons (eLc (iOf (eCall (loc s_own_triples) (aCons (eVar 0) aNil))) (gSet 1) (tOf (eOp gEq (eOp gIx (eVar 1) (eC (.int 2))) (eVar 0))) (eVar 1) [1]) aNil))
def b_triples_of : Fs := sSeq b_triples_of_0 (b_triples_of_1)
def s_triples_of : List D → Hd → Res D := runF 2 b_triples_of
theorem ok_triples_of {P : Program} {w : World} {K : PySem.W.Frag} {mg : Str → Option Value} {base : Heap} (c : Fct K mg base) : FDx P w K mg (tabsOf K tf) base d_triples_of p_triples_of 3 s_triples_of := by
  refine fd_ok (k := 2) (N := N_triples_of) (fb := b_triples_of) c.F_triples_of sc_triples_of fun cdv A outer s H E hr => ?_
  refine dss_cons (f := b_triples_of_0) (ds_expr (de_call (gD := fun ds _ => ds) ((ok_need_most c).loc) (hr.mono (by decide)) rfl c.m_need_most (takes_of rfl rfl rfl rfl) bp_need_most (da_cons (de_var 0) (da_nil)) (al_cons (al_nil)))) ?_
  exact dss_one (f := b_triples_of_1) (ds_ret (de_callT (cd_tuple rfl) rfl c.f_tuple PyProof.Rows.Boot.«tuple» (da_cons (de_lc (own := [("triple", 1)]) (ts := [1]) rfl sc_triples_of.nd (di_of rfl (de_call (gD := fun ds _ => ds) ((ok_own_triples c).loc) (hr.mono (by decide)) rfl c.m_own_triples (takes_of rfl rfl rfl rfl) bp_own_triples (da_cons (de_var 0) (da_nil)) (al_cons (al_nil)))) (blkOk_by (N := N_triples_of) (sc := defScope st_triples_of) (by decide +kernel)) (by decide) (fun _ _ _ _ _ => dg_name 1 sc_triples_of.nd) (fun _ _ _ _ _ => dts_one (dt_cmp (od_eq rfl hr.u64) (de_ix (ixd rfl hr.u1) (de_var 1) (de_int)) (de_var 0) (by first | rfl | exact nomark _))) (fun _ _ _ _ _ => de_var 1)) (da_nil))))
theorem bp_triples_of {K : PySem.W.Frag} (fd : FuncData) (F : FunD K d_triples_of.name d_triples_of.qual d_triples_of.params d_triples_of.body d_triples_of.scope (d_triples_of.dvs K) (d_triples_of.kws K) (He.fAd K d_triples_of.at_) fd) : Bnd K fd p_triples_of 1 [] (fun ds _ => ds) :=
  bnd_pos F rfl (fun _ _ _ _ _ _ us hl => match us, hl with | [_], _ => rfl) 1 rfl
def b__law_told_0 (th_ : Hd → Res D) : Fs := sAsg (eTup aNil) (gSet 1)
def b__law_told_1 (th_ : Hd → Res D) : Fs := sTryAll 2 (sAsg (eTup (aCons (eC (.str "right")) (aCons (eThk 0 th_) aNil))) (gSet 1)) [(mt_BadTriple, fun n_ => sAsg (eTup (aCons (eC (.str "triple")) (aCons (eFld n_ "place" ["BadTriple"] (eVar 2)) aNil))) (gSet 1)), (mt_BadNumber, fun n_ => sAsg (eTup (aCons (eC (.str "number")) (aCons (eFld n_ "value" ["BadNumber"] (eVar 2)) aNil))) (gSet 1)), (mt_BadRow, fun n_ => sAsg (eTup (aCons (eC (.str "row")) (aCons (eFld n_ "place" ["BadRow"] (eVar 2)) aNil))) (gSet 1)), (mt_BadText, fun n_ => sAsg (eTup (aCons (eC (.str "text")) (aCons (eFld n_ "place" ["BadText"] (eVar 2)) aNil))) (gSet 1)), (mt_NoSuch, fun n_ => sAsg (eTup (aCons (eC (.str "none")) (aCons (eFld n_ "value" ["NoSuch"] (eVar 2)) aNil))) (gSet 1)), (mt_TooMany, fun n_ => sAsg (eTup (aCons (eC (.str "many")) (aCons (eFld n_ "most" ["TooMany"] (eVar 2)) aNil))) (gSet 1))]
def b__law_told_2 (th_ : Hd → Res D) : Fs := sRet (eVar 1)
def b__law_told (th_ : Hd → Res D) : Fs := sSeq (b__law_told_0 th_) (sSeq (b__law_told_1 th_) ((b__law_told_2 th_)))
theorem ok__law_told {P : Program} {w : World} {K : PySem.W.Frag} {mg : Str → Option Value} {base : Heap} (c : Fct K mg base) : ToldX P w K mg base d__law_told N__law_told "deed" 0 b__law_told := by
  refine ⟨rfl, by first | exact Or.inl rfl | exact Or.inr (Or.inl rfl) | exact Or.inr (Or.inr rfl), by decide, by decide, c.F__law_told, fun fd F s u _ => FunD.bindsA (ps := ["deed"]) F (fun _ _ _ _ _ _ us hl => match us, hl with | [_], _ => rfl) s [u] rfl, sc__law_told, fun cdv A outer s H E la T kept mono th_ hr act_ => ?_⟩
  refine dss_cons (f := (b__law_told_0 th_)) (ds_set 1 sc__law_told.nd (de_tup (da_nil)) rfl (Or.inl rfl)) ?_
  refine dss_cons (f := (b__law_told_1 th_)) (ds_tryAll rfl rfl sc__law_told.nd rfl (fun _ => rfl) (takes_of rfl rfl rfl rfl) (fun _ _ _ tk_ pw_ => dss_one (ds_set 1 sc__law_told.nd (de_tup (da_cons (de_str) (da_cons (act_ _ _ _ _ _ tk_) (da_nil)))) rfl (Or.inl rfl))) (DCls.cons (x := "BadTriple") ⟨rfl, by decide, .inl c.m_BadTriple⟩ (mt_BadTriple_ok c) (fun _ _ _ _ _ n_ hz_ hv_ => dss_one (ds_set 1 sc__law_told.nd (de_tup (da_cons (de_str) (da_cons (de_fld (cs := ["BadTriple"]) rfl hz_ hv_ (fun c0 hc0 => by simp only [List.mem_cons, List.mem_nil_iff, or_false] at hc0; subst hc0; exact ⟨_, _, _, _, _, _, c.x_BadTriple⟩) (de_var 2)) (da_nil)))) rfl (Or.inl rfl))) (DCls.cons (x := "BadNumber") ⟨rfl, by decide, .inl c.m_BadNumber⟩ (mt_BadNumber_ok c) (fun _ _ _ _ _ n_ hz_ hv_ => dss_one (ds_set 1 sc__law_told.nd (de_tup (da_cons (de_str) (da_cons (de_fld (cs := ["BadNumber"]) rfl hz_ hv_ (fun c0 hc0 => by simp only [List.mem_cons, List.mem_nil_iff, or_false] at hc0; subst hc0; exact ⟨_, _, _, _, _, _, c.x_BadNumber⟩) (de_var 2)) (da_nil)))) rfl (Or.inl rfl))) (DCls.cons (x := "BadRow") ⟨rfl, by decide, .inl c.m_BadRow⟩ (mt_BadRow_ok c) (fun _ _ _ _ _ n_ hz_ hv_ => dss_one (ds_set 1 sc__law_told.nd (de_tup (da_cons (de_str) (da_cons (de_fld (cs := ["BadRow"]) rfl hz_ hv_ (fun c0 hc0 => by simp only [List.mem_cons, List.mem_nil_iff, or_false] at hc0; subst hc0; exact ⟨_, _, _, _, _, _, c.x_BadRow⟩) (de_var 2)) (da_nil)))) rfl (Or.inl rfl))) (DCls.cons (x := "BadText") ⟨rfl, by decide, .inl c.m_BadText⟩ (mt_BadText_ok c) (fun _ _ _ _ _ n_ hz_ hv_ => dss_one (ds_set 1 sc__law_told.nd (de_tup (da_cons (de_str) (da_cons (de_fld (cs := ["BadText"]) rfl hz_ hv_ (fun c0 hc0 => by simp only [List.mem_cons, List.mem_nil_iff, or_false] at hc0; subst hc0; exact ⟨_, _, _, _, _, _, c.x_BadText⟩) (de_var 2)) (da_nil)))) rfl (Or.inl rfl))) (DCls.cons (x := "NoSuch") ⟨rfl, by decide, .inl c.m_NoSuch⟩ (mt_NoSuch_ok c) (fun _ _ _ _ _ n_ hz_ hv_ => dss_one (ds_set 1 sc__law_told.nd (de_tup (da_cons (de_str) (da_cons (de_fld (cs := ["NoSuch"]) rfl hz_ hv_ (fun c0 hc0 => by simp only [List.mem_cons, List.mem_nil_iff, or_false] at hc0; subst hc0; exact ⟨_, _, _, _, _, _, c.x_NoSuch⟩) (de_var 2)) (da_nil)))) rfl (Or.inl rfl))) (DCls.cons (x := "TooMany") ⟨rfl, by decide, .inl c.m_TooMany⟩ (mt_TooMany_ok c) (fun _ _ _ _ _ n_ hz_ hv_ => dss_one (ds_set 1 sc__law_told.nd (de_tup (da_cons (de_str) (da_cons (de_fld (cs := ["TooMany"]) rfl hz_ hv_ (fun c0 hc0 => by simp only [List.mem_cons, List.mem_nil_iff, or_false] at hc0; subst hc0; exact ⟨_, _, _, _, _, _, c.x_TooMany⟩) (de_var 2)) (da_nil)))) rfl (Or.inl rfl))) (DCls.nil)))))))) ?_
  exact dss_one (f := (b__law_told_2 th_)) (ds_ret (de_var 1))
theorem bp_triple_at {K : PySem.W.Frag} (fd : FuncData) (F : FunD K d_triple_at.name d_triple_at.qual d_triple_at.params d_triple_at.body d_triple_at.scope (d_triple_at.dvs K) (d_triple_at.kws K) (He.fAd K d_triple_at.at_) fd) : Bnd K fd p_triple_at 1 [] (fun ds _ => ds) :=
  bnd_pos F rfl (fun _ _ _ _ _ _ us hl => match us, hl with | [_], _ => rfl) 1 rfl
theorem bp_path_of {K : PySem.W.Frag} (fd : FuncData) (F : FunD K d_path_of.name d_path_of.qual d_path_of.params d_path_of.body d_path_of.scope (d_path_of.dvs K) (d_path_of.kws K) (He.fAd K d_path_of.at_) fd) : Bnd K fd p_path_of 1 [] (fun ds _ => ds) :=
  bnd_pos F rfl (fun _ _ _ _ _ _ us hl => match us, hl with | [_], _ => rfl) 1 rfl
def b__law_right_0 : Fs := sFor (iRng1D (aCons (eC (.int 4)) aNil)) (gSet 1) (sSeq (sAsg (eCall gTuple (aCons (eLc (iRng1D (aCons (eCall (loc s__law_digit) (aCons (eVar 0) (aCons (eC (.int 9)) aNil))) aNil)) (gSet 13) tYesD (eCall (loc s__law_digit) (aCons (eVar 0) (aCons (eC (.int 2)) aNil))) [13]) aNil)) (gSet 2))
    (sSeq (sAsg (eCall (loc s__law_triple) (aCons (eVar 2) aNil)) (gSet 3))
    (sSeq (sIf (tOrD (tOf (eOp gNe (eCall gRepr (aCons (eCallK (loc s_triple_at) (fun ds ws => gI [0] ds ws) aNil (aCons (eVar 2) aNil)) aNil)) (eCall gRepr (aCons (eVar 3) aNil)))) (tOrD (tOf (eOp gNe (eCall gRepr (aCons (eCallK (loc s_path_of) (fun ds ws => gI [0] ds ws) aNil (aCons (eVar 3) aNil)) aNil)) (eCall gRepr (aCons (eVar 2) aNil)))) (tOf (eOp gIsNot (eCallK (loc s_need_triple) (fun ds ws => gI [0] ds ws) aNil (aCons (eVar 3) aNil)) (eC .non))))) (sRet (eC (.bl false))) sNil)
    (sSeq (sIf (tOrD (tOf (eOp gNe (eCall gRepr (aCons (eCall (loc s_triples_of) (aCons (eOp gIx (eVar 3) (eC (.int 2))) aNil)) aNil)) (eCall gRepr (aCons (eTup (aCons (eVar 3) aNil)) aNil)))) (tOrD (tOf (eOp gIsNot (eCall (loc s_is_markov) (aCons (eOp gIx (eVar 3) (eC (.int 2))) aNil)) (eC (.bl true)))) (tOf (eOp gNe (eCall (loc s_is_markov) (aCons (eOp gAdd (eOp gIx (eVar 3) (eC (.int 2))) (eC (.int 1))) aNil)) (eOp gNe (eCall (loc s_triples_of) (aCons (eOp gAdd (eOp gIx (eVar 3) (eC (.int 2))) (eC (.int 1))) aNil)) (eTup aNil)))))) (sRet (eC (.bl false))) sNil)
    (sSeq (sAsg (eTup (aCons (eCall (loc s__law_digit) (aCons (eVar 0) (aCons (eOp gAdd (eCall gLen (aCons (eVar 2) aNil)) (eC (.int 1))) aNil))) (aCons (eOp gIx (eLst (aCons (eC .non) (aCons (eC (.int 2)) (aCons (eUn gNeg (eC (.int 1))) (aCons (eC (.bl true)) (aCons (eC (.str "0")) (aCons (eTup (aCons (eC (.int 0)) aNil)) aNil))))))) (eCall (loc s__law_digit) (aCons (eVar 0) (aCons (eC (.int 6)) aNil)))) aNil))) (gUnp 2 (gsCons (gSet 4) (gsCons (gSet 5) gsNil))))
    (sSeq (sIf (tOf (eOp gNe (eTold (toldF 3 b__law_told) (eCall (loc s_triple_at) (aCons (eOp gAdd (eOp gAdd (eOp gAdd (eSl (eVar 2) oNone (oSome (eVar 4))) (eTup (aCons (eVar 5) aNil))) (eSl (eVar 2) (oSome (eVar 4)) oNone)) (eTup (aCons (eC .non) aNil))) aNil))) (eTup (aCons (eC (.str "row")) (aCons (eVar 4) aNil))))) (sRet (eC (.bl false))) sNil)
    (sSeq (sAsg (eVar 3) (gUnp 3 (gsCons (gSet 6) (gsCons (gSet 7) (gsCons (gSet 8) gsNil)))))
    (sSeq (sAsg (eLst (aCons (eTup (aCons (eC .non) (aCons (eC .non) aNil))) (aCons (eTup (aCons (eTup (aCons (eVar 6) (aCons (eVar 7) aNil))) (aCons (eC .non) aNil))) (aCons (eTup (aCons (eLst (aCons (eVar 6) (aCons (eVar 7) (aCons (eVar 8) aNil)))) (aCons (eC .non) aNil))) (aCons (eTup (aCons (eTup (aCons (eC (.int 0)) (aCons (eVar 7) (aCons (eVar 8) aNil)))) (aCons (eC .non) aNil))) (aCons (eTup (aCons (eTup (aCons (eC (.bl true)) (aCons (eVar 7) (aCons (eVar 8) aNil)))) (aCons (eC .non) aNil))) aNil)))))) (gSet 9))
    (sSeq (sAsg (eOp gAdd (eVar 9) (eLst (aCons (eTup (aCons (eTup (aCons (eVar 7) (aCons (eVar 6) (aCons (eVar 8) aNil)))) (aCons (eC (.str "order")) aNil))) (aCons (eTup (aCons (eTup (aCons (eVar 8) (aCons (eVar 7) (aCons (eVar 6) aNil)))) (aCons (eC (.str "order")) aNil))) (aCons (eTup (aCons (eTup (aCons (eVar 6) (aCons (eVar 7) (aCons (eOp gAdd (eVar 8) (eC (.int 1))) aNil)))) (aCons (eC (.str "sum")) aNil))) aNil))))) (gSet 9))
    (sFor (iOf (eVar 9)) (gUnp 2 (gsCons (gSet 10) (gsCons (gSet 11) gsNil))) (sFor (iOf (eTup (aCons (eC (.gl "need_triple")) (aCons (eC (.gl "path_of")) aNil)))) (gSet 12) (sIf (tOf (eOp gNe (eCall gRepr (aCons (eTold (toldF 3 b__law_told) (eCallV 12 [("need_triple", (loc s_need_triple)), ("path_of", (loc s_path_of))] (aCons (eVar 10) aNil))) aNil)) (eCall gRepr (aCons (eTup (aCons (eC (.str "triple")) (aCons (eVar 11) aNil))) aNil)))) (sRet (eC (.bl false))) sNil))))))))))))
def b__law_right_1 : Fs := sRet (eC (.bl true))
def b__law_right : Fs := sSeq b__law_right_0 (b__law_right_1)
def s__law_right : List D → Hd → Res D := runF 14 b__law_right
theorem ok__law_right {P : Program} {w : World} {K : PySem.W.Frag} {mg : Str → Option Value} {base : Heap} (c : Fct K mg base) : FDx P w K mg (tabsOf K tf) base d__law_right p__law_right 9 s__law_right := by
  refine fd_okC (k := 8) (N := N__law_right) (fb := b__law_right) c.F__law_right sc__law_right fun A outer s H E hr => ?_
  refine dss_cons (f := b__law_right_0) (ds_for (passes_of rfl) rfl (di_rng1 rfl c.f_range (da_cons (de_int) (da_nil))) (dg_name 1 sc__law_right.nd) (dss_cons (ds_set 2 sc__law_right.nd (de_callT (cd_tuple rfl) rfl c.f_tuple PyProof.Rows.Boot.«tuple» (da_cons (de_lc (own := [("step", 13)]) (ts := [13]) rfl sc__law_right.nd (di_rng1 rfl c.f_range (da_cons (de_call (gD := fun ds _ => ds) ((ok__law_digit c).loc) (hr.mono (by decide)) rfl c.m__law_digit (takes_of rfl rfl rfl rfl) bp__law_digit (da_cons (de_var 0) (da_cons (de_int) (da_nil))) (al_cons (al_cons (al_nil)))) (da_nil))) (blkOk_by (N := N__law_right) (sc := defScope st__law_right) (by decide +kernel)) (by decide) (fun _ _ _ _ _ => dg_name 13 sc__law_right.nd) (fun _ _ _ _ _ => dts_nil) (fun _ _ _ _ _ => de_call (gD := fun ds _ => ds) ((ok__law_digit c).loc) (hr.mono (by decide)) rfl c.m__law_digit takes_W0 bp__law_digit (da_cons (de_var 0) (da_cons (de_int) (da_nil))) (al_cons (al_cons (al_nil))))) (da_nil))) rfl (Or.inr rfl))
    (dss_cons (ds_set 3 sc__law_right.nd (de_call (gD := fun ds _ => ds) ((ok__law_triple c).loc) (hr.mono (by decide)) rfl c.m__law_triple (takes_of rfl rfl rfl rfl) bp__law_triple (da_cons (de_var 2) (da_nil)) (al_cons (al_nil))) rfl (Or.inl rfl))
    (dss_cons (ds_if (dt_bool (dw_or (dt_cmp (od_ne rfl hr.u64) (de_callB (cd_repr rfl hr.gd hr.u64) rfl c.f_repr PyProof.Rows.Boot.«repr» (da_cons (de_callK0 (gD := fun ds ws => gI [0] ds ws) ((ok_triple_at c).loc) (hr.mono (by decide)) rfl c.m_triple_at (takes_of rfl rfl rfl rfl) bk_triple_at_0_path (dk_cons (de_var 2) (dk_nil)) (al_cons (al_nil))) (da_nil))) (de_callB (cd_repr rfl hr.gd hr.u64) rfl c.f_repr PyProof.Rows.Boot.«repr» (da_cons (de_var 3) (da_nil))) (by first | rfl | exact nomark _)) (dw_or (dt_cmp (od_ne rfl hr.u64) (de_callB (cd_repr rfl hr.gd hr.u64) rfl c.f_repr PyProof.Rows.Boot.«repr» (da_cons (de_callK0 (gD := fun ds ws => gI [0] ds ws) ((ok_path_of c).loc) (hr.mono (by decide)) rfl c.m_path_of (takes_of rfl rfl rfl rfl) bk_path_of_0_triple (dk_cons (de_var 3) (dk_nil)) (al_cons (al_nil))) (da_nil))) (de_callB (cd_repr rfl hr.gd hr.u64) rfl c.f_repr PyProof.Rows.Boot.«repr» (da_cons (de_var 2) (da_nil))) (by first | rfl | exact nomark _)) (dw_or1 (dt_cmp (od_isnot) (de_callK0 (gD := fun ds ws => gI [0] ds ws) ((ok_need_triple c).loc) (hr.mono (by decide)) rfl c.m_need_triple (takes_of rfl rfl rfl rfl) bk_need_triple_0_triple (dk_cons (de_var 3) (dk_nil)) (al_cons (al_nil))) (de_non) (by first | rfl | exact nomark _)))))) (dss_one (ds_ret (de_bl))) (dss_nil))
    (dss_cons (ds_if (dt_bool (dw_or (dt_cmp (od_ne rfl hr.u64) (de_callB (cd_repr rfl hr.gd hr.u64) rfl c.f_repr PyProof.Rows.Boot.«repr» (da_cons (de_call (gD := fun ds _ => ds) ((ok_triples_of c).loc) (hr.mono (by decide)) rfl c.m_triples_of (takes_of rfl rfl rfl rfl) bp_triples_of (da_cons (de_ix (ixd rfl hr.u1) (de_var 3) (de_int)) (da_nil)) (al_cons (al_nil))) (da_nil))) (de_callB (cd_repr rfl hr.gd hr.u64) rfl c.f_repr PyProof.Rows.Boot.«repr» (da_cons (de_tup (da_cons (de_var 3) (da_nil))) (da_nil))) (by first | rfl | exact nomark _)) (dw_or (dt_cmp (od_isnot) (de_call (gD := fun ds _ => ds) ((ok_is_markov c).loc) (hr.mono (by decide)) rfl c.m_is_markov (takes_of rfl rfl rfl rfl) bp_is_markov (da_cons (de_ix (ixd rfl hr.u1) (de_var 3) (de_int)) (da_nil)) (al_cons (al_nil))) (de_bl) (by first | rfl | exact nomark _)) (dw_or1 (dt_cmp (od_ne rfl hr.u64) (de_call (gD := fun ds _ => ds) ((ok_is_markov c).loc) (hr.mono (by decide)) rfl c.m_is_markov (takes_of rfl rfl rfl rfl) bp_is_markov (da_cons (de_op (od_add rfl) (de_ix (ixd rfl hr.u1) (de_var 3) (de_int)) (de_int)) (da_nil)) (al_cons (al_nil))) (de_cmp (od_ne rfl hr.u64) (de_call (gD := fun ds _ => ds) ((ok_triples_of c).loc) (hr.mono (by decide)) rfl c.m_triples_of (takes_of rfl rfl rfl rfl) bp_triples_of (da_cons (de_op (od_add rfl) (de_ix (ixd rfl hr.u1) (de_var 3) (de_int)) (de_int)) (da_nil)) (al_cons (al_nil))) (de_tup (da_nil)) (by first | rfl | exact nomark _)) (by first | rfl | exact nomark _)))))) (dss_one (ds_ret (de_bl))) (dss_nil))
    (dss_cons (ds_asg (de_tup (da_cons (de_call (gD := fun ds _ => ds) ((ok__law_digit c).loc) (hr.mono (by decide)) rfl c.m__law_digit (takes_of rfl rfl rfl rfl) bp__law_digit (da_cons (de_var 0) (da_cons (de_op (od_add rfl) (de_callB (cd_len rfl) rfl c.f_len PyProof.Rows.Boot.«len» (da_cons (de_var 2) (da_nil))) (de_int)) (da_nil))) (al_cons (al_cons (al_nil)))) (da_cons (de_ix (ixd rfl hr.u1) (de_lst (da_cons (de_non) (da_cons (de_int) (da_cons (de_un ud_neg (de_int)) (da_cons (de_bl) (da_cons (de_str) (da_cons (de_tup (da_cons (de_int) (da_nil))) (da_nil)))))))) (de_call (gD := fun ds _ => ds) ((ok__law_digit c).loc) (hr.mono (by decide)) rfl c.m__law_digit (takes_of rfl rfl rfl rfl) bp__law_digit (da_cons (de_var 0) (da_cons (de_int) (da_nil))) (al_cons (al_cons (al_nil))))) (da_nil)))) (dg_unp rfl rfl (dgs_cons (dg_name 4 sc__law_right.nd) (dgs_cons (dg_name 5 sc__law_right.nd) (dgs_nil)))))
    (dss_cons (ds_if (dt_cmp (od_ne rfl hr.u64) (de_told (k := 2) (ok__law_told c) (by decide) (hr.mono (by decide)) rfl c.m__law_told (takes_of rfl rfl rfl rfl) (c.tb _ (List.mem_of_getElem? (i := 1) rfl)) rfl (tabs_mem (List.mem_of_getElem? (i := 1) rfl)) (tabs_one c.nd (List.mem_of_getElem? (i := 1) rfl)) (LamX.lamS_by (sc := defScope st__law_right) (by decide +kernel)) (fun _ _ _ _ _ _ _ hrl_ => de_call (gD := fun ds _ => ds) ((ok_triple_at c).loc) (hrl_.mono (by decide)) rfl c.m_triple_at (takes_of rfl rfl rfl rfl) bp_triple_at (da_cons (de_op (od_add rfl) (de_op (od_add rfl) (de_op (od_add rfl) (de_sl rfl (de_var 2) (do_none) (do_some (de_var 4))) (de_tup (da_cons (de_var 5) (da_nil)))) (de_sl rfl (de_var 2) (do_some (de_var 4)) (do_none))) (de_tup (da_cons (de_non) (da_nil)))) (da_nil)) (al_cons (al_nil)))) (de_tup (da_cons (de_str) (da_cons (de_var 4) (da_nil)))) (by first | rfl | exact nomark _)) (dss_one (ds_ret (de_bl))) (dss_nil))
    (dss_cons (ds_asg (de_var 3) (dg_unp rfl rfl (dgs_cons (dg_name 6 sc__law_right.nd) (dgs_cons (dg_name 7 sc__law_right.nd) (dgs_cons (dg_name 8 sc__law_right.nd) (dgs_nil))))))
    (dss_cons (ds_set 9 sc__law_right.nd (de_lst (da_cons (de_tup (da_cons (de_non) (da_cons (de_non) (da_nil)))) (da_cons (de_tup (da_cons (de_tup (da_cons (de_var 6) (da_cons (de_var 7) (da_nil)))) (da_cons (de_non) (da_nil)))) (da_cons (de_tup (da_cons (de_lst (da_cons (de_var 6) (da_cons (de_var 7) (da_cons (de_var 8) (da_nil))))) (da_cons (de_non) (da_nil)))) (da_cons (de_tup (da_cons (de_tup (da_cons (de_int) (da_cons (de_var 7) (da_cons (de_var 8) (da_nil))))) (da_cons (de_non) (da_nil)))) (da_cons (de_tup (da_cons (de_tup (da_cons (de_bl) (da_cons (de_var 7) (da_cons (de_var 8) (da_nil))))) (da_cons (de_non) (da_nil)))) (da_nil))))))) rfl (Or.inl rfl))
    (dss_cons (ds_set 9 sc__law_right.nd (de_op (od_add rfl) (de_var 9) (de_lst (da_cons (de_tup (da_cons (de_tup (da_cons (de_var 7) (da_cons (de_var 6) (da_cons (de_var 8) (da_nil))))) (da_cons (de_str) (da_nil)))) (da_cons (de_tup (da_cons (de_tup (da_cons (de_var 8) (da_cons (de_var 7) (da_cons (de_var 6) (da_nil))))) (da_cons (de_str) (da_nil)))) (da_cons (de_tup (da_cons (de_tup (da_cons (de_var 6) (da_cons (de_var 7) (da_cons (de_op (od_add rfl) (de_var 8) (de_int)) (da_nil))))) (da_cons (de_str) (da_nil)))) (da_nil)))))) rfl (Or.inl rfl))
    (dss_one (ds_for (passes_of rfl) rfl (di_of rfl (de_var 9)) (dg_unp rfl rfl (dgs_cons (dg_name 10 sc__law_right.nd) (dgs_cons (dg_name 11 sc__law_right.nd) (dgs_nil)))) (dss_one (ds_for (passes_of rfl) rfl (di_of rfl (de_tup (da_cons (de_gl rfl rfl ⟨_, c.m_need_triple⟩) (da_cons (de_gl rfl rfl ⟨_, c.m_path_of⟩) (da_nil))))) (dg_name 12 sc__law_right.nd) (dss_one (ds_if (dt_cmp (od_ne rfl hr.u64) (de_callB (cd_repr rfl hr.gd hr.u64) rfl c.f_repr PyProof.Rows.Boot.«repr» (da_cons (de_told (k := 6) (ok__law_told c) (by decide) (hr.mono (by decide)) rfl c.m__law_told (takes_of rfl rfl rfl rfl) (c.tb _ (List.mem_of_getElem? (i := 1) rfl)) rfl (tabs_mem (List.mem_of_getElem? (i := 1) rfl)) (tabs_one c.nd (List.mem_of_getElem? (i := 1) rfl)) (LamX.lamS_by (sc := defScope st__law_right) (by decide +kernel)) (fun _ _ _ _ _ _ _ hrl_ => de_callV 12 (L := [("need_triple", (loc s_need_triple)), ("path_of", (loc s_path_of))]) (deeds_cons (gD := fun ds => ds) "need_triple" ((ok_need_triple c).loc) (hrl_.mono (by decide)) c.m_need_triple bp_need_triple (deeds_cons (gD := fun ds => ds) "path_of" ((ok_path_of c).loc) (hrl_.mono (by decide)) c.m_path_of bp_path_of (deeds_nil))) (takes_of rfl rfl rfl rfl) (da_cons (de_var 10) (da_nil)) (al_cons (al_nil)))) (da_nil))) (de_callB (cd_repr rfl hr.gd hr.u64) rfl c.f_repr PyProof.Rows.Boot.«repr» (da_cons (de_tup (da_cons (de_str) (da_cons (de_var 11) (da_nil)))) (da_nil))) (by first | rfl | exact nomark _)) (dss_one (ds_ret (de_bl))) (dss_nil))))))))))))))))) ?_
  exact dss_one (f := b__law_right_1) (ds_ret (de_bl))
theorem bp__law_right {K : PySem.W.Frag} (fd : FuncData) (F : FunD K d__law_right.name d__law_right.qual d__law_right.params d__law_right.body d__law_right.scope (d__law_right.dvs K) (d__law_right.kws K) (He.fAd K d__law_right.at_) fd) : Bnd K fd p__law_right 1 [] (fun ds _ => ds) :=
  bnd_pos F rfl (fun _ _ _ _ _ _ us hl => match us, hl with | [_], _ => rfl) 1 rfl
def b__law_draw_0 : Fs := sRet (eDict [(eC (.str "left"), eIf (tOf (eOp gGe (eVar 0) (eOp gPow (eC (.int 10)) (eC (.int 18))))) (eVar 0) (eC (.int 0))), (eC (.str "cell"), eVar 0), (eC (.str "turns"), eOp gMul (eC (.int 1000)) (eVar 1))])
def b__law_draw : Fs := b__law_draw_0
def s__law_draw : List D → Hd → Res D := runF 2 b__law_draw
theorem ok__law_draw {P : Program} {w : World} {K : PySem.W.Frag} {mg : Str → Option Value} {base : Heap} (c : Fct K mg base) : FDx P w K mg (tabsOf K tf) base d__law_draw p__law_draw 1 s__law_draw := by
  refine fd_ok (k := 0) (N := N__law_draw) (fb := b__law_draw) c.F__law_draw sc__law_draw fun cdv A outer s H E hr => ?_
  exact dss_one (f := b__law_draw_0) (ds_ret (de_dict (dps_cons (de_str) (de_if (dt_cmp (od_ge) (de_var 0) (de_op (od_pow) (de_int) (de_int)) (by first | rfl | exact nomark _)) (de_var 0) (de_int)) (dps_cons (de_str) (de_var 0) (dps_cons (de_str) (de_op (od_mul rfl) (de_int) (de_var 1)) (dps_nil))))))
theorem bp__law_draw {K : PySem.W.Frag} (fd : FuncData) (F : FunD K d__law_draw.name d__law_draw.qual d__law_draw.params d__law_draw.body d__law_draw.scope (d__law_draw.dvs K) (d__law_draw.kws K) (He.fAd K d__law_draw.at_) fd) : Bnd K fd p__law_draw 2 [] (fun ds _ => ds) :=
  bnd_pos F rfl (fun _ _ _ _ _ _ us hl => match us, hl with | [_, _], _ => rfl) 2 rfl
def b__law_root_0 : Fs := sIf (tOf (eOp gLt (eVar 0) (eC (.int 2)))) (sRet (eVar 0)) sNil
def b__law_root_1 : Fs := sAsg (eC (.int 2)) (gSet 1)
def b__law_root_2 : Fs := sWhile (tOf (eOp gLe (eOp gMul (eVar 1) (eVar 1)) (eVar 0))) (sAsg (eOp gMul (eVar 1) (eVar 1)) (gSet 1))
def b__law_root_3 : Fs := sWhile (tOrD (tOf (eOp gGt (eOp gMul (eVar 1) (eVar 1)) (eVar 0))) (tOf (eOp gLe (eOp gMul (eOp gAdd (eVar 1) (eC (.int 1))) (eOp gAdd (eVar 1) (eC (.int 1)))) (eVar 0)))) (sAsg (eOp gFdv (eOp gAdd (eVar 1) (eOp gFdv (eVar 0) (eVar 1))) (eC (.int 2))) (gSet 1))
def b__law_root_4 : Fs := sRet (eVar 1)
def b__law_root : Fs := sSeq b__law_root_0 (sSeq b__law_root_1 (sSeq b__law_root_2 (sSeq b__law_root_3 (b__law_root_4))))
def s__law_root : List D → Hd → Res D := runF 2 b__law_root
theorem ok__law_root {P : Program} {w : World} {K : PySem.W.Frag} {mg : Str → Option Value} {base : Heap} (c : Fct K mg base) : FDx P w K mg (tabsOf K tf) base d__law_root p__law_root 1 s__law_root := by
  refine fd_ok (k := 0) (N := N__law_root) (fb := b__law_root) c.F__law_root sc__law_root fun cdv A outer s H E hr => ?_
  refine dss_cons (f := b__law_root_0) (ds_if (dt_cmp (od_lt rfl hr.u0) (de_var 0) (de_int) (by first | rfl | exact nomark _)) (dss_one (ds_ret (de_var 0))) (dss_nil)) ?_
  refine dss_cons (f := b__law_root_1) (ds_set 1 sc__law_root.nd (de_int) rfl (Or.inl rfl)) ?_
  refine dss_cons (f := b__law_root_2) (ds_while (passes_of rfl) (dt_cmp (od_le) (de_op (od_mul rfl) (de_var 1) (de_var 1)) (de_var 0) (by first | rfl | exact nomark _)) (dss_one (ds_set 1 sc__law_root.nd (de_op (od_mul rfl) (de_var 1) (de_var 1)) rfl (Or.inl rfl)))) ?_
  refine dss_cons (f := b__law_root_3) (ds_while (passes_of rfl) (dt_bool (dw_or (dt_cmp (od_gt) (de_op (od_mul rfl) (de_var 1) (de_var 1)) (de_var 0) (by first | rfl | exact nomark _)) (dw_or1 (dt_cmp (od_le) (de_op (od_mul rfl) (de_op (od_add rfl) (de_var 1) (de_int)) (de_op (od_add rfl) (de_var 1) (de_int))) (de_var 0) (by first | rfl | exact nomark _))))) (dss_one (ds_set 1 sc__law_root.nd (de_op (od_fdv) (de_op (od_add rfl) (de_var 1) (de_op (od_fdv) (de_var 0) (de_var 1))) (de_int)) rfl (Or.inl rfl)))) ?_
  exact dss_one (f := b__law_root_4) (ds_ret (de_var 1))
theorem bp__law_root {K : PySem.W.Frag} (fd : FuncData) (F : FunD K d__law_root.name d__law_root.qual d__law_root.params d__law_root.body d__law_root.scope (d__law_root.dvs K) (d__law_root.kws K) (He.fAd K d__law_root.at_) fd) : Bnd K fd p__law_root 1 [] (fun ds _ => ds) :=
  bnd_pos F rfl (fun _ _ _ _ _ _ us hl => match us, hl with | [_], _ => rfl) 1 rfl
def b__law_tried_0 : Fs := sAsg (eLst aNil) (gSet 1)
def b__law_tried_1 : Fs := sFor (iRng2D (aCons (eC (.int 1)) (aCons (eOp gAdd (eVar 0) (eC (.int 1))) aNil))) (gSet 2) (sFor (iRng2D (aCons (eC (.int 1)) (aCons (eOp gAdd (eVar 2) (eC (.int 1))) aNil))) (gSet 3) (sSeq (sAsg (eOp gMul (eOp gMul (eC (.int 3)) (eVar 3)) (eVar 2)) (gSet 4))
    (sSeq (sAsg (eOp gSub (eOp gMul (eVar 4) (eVar 4)) (eOp gMul (eC (.int 4)) (eOp gAdd (eOp gMul (eVar 3) (eVar 3)) (eOp gMul (eVar 2) (eVar 2))))) (gSet 5))
    (sSeq (sAsg (eIf (tOf (eOp gGe (eVar 5) (eC (.int 0)))) (eCall (loc s__law_root) (aCons (eVar 5) aNil)) (eC (.int 0))) (gSet 6))
    (sIf (tAndD (tOf (eOp gGe (eVar 5) (eC (.int 0)))) (tAndD (tOf (eOp gEq (eOp gMul (eVar 6) (eVar 6)) (eVar 5))) (tOf (eOp gEq (eOp gMod (eOp gSub (eVar 4) (eVar 6)) (eC (.int 2))) (eC (.int 0)))))) (sSeq (sAsg (eOp gFdv (eOp gSub (eVar 4) (eVar 6)) (eC (.int 2))) (gSet 7))
    (sIf (tOf (eChain gLe gLe (eVar 3) (eVar 7) (eVar 2))) (sExpr (eMeth "list" mAppend (eVar 1) (aCons (eTup (aCons (eVar 3) (aCons (eVar 7) (aCons (eVar 2) aNil)))) aNil))) sNil)) sNil)))))
def b__law_tried_2 : Fs := sRet (eCall gSortR1 (aCons (eVar 1) aNil))
def b__law_tried : Fs := sSeq b__law_tried_0 (sSeq b__law_tried_1 (b__law_tried_2))
def s__law_tried : List D → Hd → Res D := runF 8 b__law_tried
theorem ok__law_tried {P : Program} {w : World} {K : PySem.W.Frag} {mg : Str → Option Value} {base : Heap} (c : Fct K mg base) : FDx P w K mg (tabsOf K tf) base d__law_tried p__law_tried 2 s__law_tried := by
  refine fd_okC (k := 1) (N := N__law_tried) (fb := b__law_tried) c.F__law_tried sc__law_tried fun A outer s H E hr => ?_
  refine dss_cons (f := b__law_tried_0) (ds_set 1 sc__law_tried.nd (de_lst (da_nil)) rfl (Or.inl rfl)) ?_
  refine dss_cons (f := b__law_tried_1) (ds_for (passes_of rfl) rfl (di_rng2 rfl c.f_range (da_cons (de_int) (da_cons (de_op (od_add rfl) (de_var 0) (de_int)) (da_nil)))) (dg_name 2 sc__law_tried.nd) (dss_one (ds_for (passes_of rfl) rfl (di_rng2 rfl c.f_range (da_cons (de_int) (da_cons (de_op (od_add rfl) (de_var 2) (de_int)) (da_nil)))) (dg_name 3 sc__law_tried.nd) (dss_cons (ds_set 4 sc__law_tried.nd (de_op (od_mul rfl) (de_op (od_mul rfl) (de_int) (de_var 3)) (de_var 2)) rfl (Or.inl rfl))
    (dss_cons (ds_set 5 sc__law_tried.nd (de_op (od_sub) (de_op (od_mul rfl) (de_var 4) (de_var 4)) (de_op (od_mul rfl) (de_int) (de_op (od_add rfl) (de_op (od_mul rfl) (de_var 3) (de_var 3)) (de_op (od_mul rfl) (de_var 2) (de_var 2))))) rfl (Or.inl rfl))
    (dss_cons (ds_set 6 sc__law_tried.nd (de_if (dt_cmp (od_ge) (de_var 5) (de_int) (by first | rfl | exact nomark _)) (de_call (gD := fun ds _ => ds) ((ok__law_root c).loc) (hr.mono (by decide)) rfl c.m__law_root (takes_of rfl rfl rfl rfl) bp__law_root (da_cons (de_var 5) (da_nil)) (al_cons (al_nil))) (de_int)) rfl (Or.inl rfl))
    (dss_one (ds_if (dt_bool (dw_and (dt_cmp (od_ge) (de_var 5) (de_int) (by first | rfl | exact nomark _)) (dw_and (dt_cmp (od_eq rfl hr.u64) (de_op (od_mul rfl) (de_var 6) (de_var 6)) (de_var 5) (by first | rfl | exact nomark _)) (dw_and1 (dt_cmp (od_eq rfl hr.u64) (de_op (od_mod) (de_op (od_sub) (de_var 4) (de_var 6)) (de_int)) (de_int) (by first | rfl | exact nomark _)))))) (dss_cons (ds_set 7 sc__law_tried.nd (de_op (od_fdv) (de_op (od_sub) (de_var 4) (de_var 6)) (de_int)) rfl (Or.inl rfl))
    (dss_one (ds_if (dt_chain (od_le) (od_le) (de_var 3) (de_var 7) (de_var 2)) (dss_one (ds_expr (de_meth rfl F.plainAttrs_list F.slot_list_append F.type_list_append md_append (de_var 1) (da_cons (de_tup (da_cons (de_var 3) (da_cons (de_var 7) (da_cons (de_var 2) (da_nil))))) (da_nil))))) (dss_nil)))) (dss_nil))))))))) ?_
  exact dss_one (f := b__law_tried_2) (ds_ret (de_sortR (a := "triple") (da_cons (de_var 1) (da_nil)) hr rfl c.f_sorted (c.tb _ (List.mem_of_getElem? (i := 2) rfl)) rfl (tabs_mem (List.mem_of_getElem? (i := 2) rfl)) (tabs_one c.nd (List.mem_of_getElem? (i := 2) rfl)) (lamK_by (sc := defScope st__law_tried) (by decide +kernel))))
theorem bp__law_tried {K : PySem.W.Frag} (fd : FuncData) (F : FunD K d__law_tried.name d__law_tried.qual d__law_tried.params d__law_tried.body d__law_tried.scope (d__law_tried.dvs K) (d__law_tried.kws K) (He.fAd K d__law_tried.at_) fd) : Bnd K fd p__law_tried 1 [] (fun ds _ => ds) :=
  bnd_pos F rfl (fun _ _ _ _ _ _ us hl => match us, hl with | [_], _ => rfl) 1 rfl
def b_triples_up_to_0 : Fs := sExpr (eCall (loc s_need_most) (aCons (eVar 0) aNil))
def b_triples_up_to_1 : Fs := sRet (eCall gTuple (aCons (eCall (loc s_own_triples) (aCons (eVar 0) aNil)) aNil))
def b_triples_up_to : Fs := sSeq b_triples_up_to_0 (b_triples_up_to_1)
def s_triples_up_to : List D → Hd → Res D := runF 1 b_triples_up_to
theorem ok_triples_up_to {P : Program} {w : World} {K : PySem.W.Frag} {mg : Str → Option Value} {base : Heap} (c : Fct K mg base) : FDx P w K mg (tabsOf K tf) base d_triples_up_to p_triples_up_to 3 s_triples_up_to := by
  refine fd_ok (k := 2) (N := N_triples_up_to) (fb := b_triples_up_to) c.F_triples_up_to sc_triples_up_to fun cdv A outer s H E hr => ?_
  refine dss_cons (f := b_triples_up_to_0) (ds_expr (de_call (gD := fun ds _ => ds) ((ok_need_most c).loc) (hr.mono (by decide)) rfl c.m_need_most (takes_of rfl rfl rfl rfl) bp_need_most (da_cons (de_var 0) (da_nil)) (al_cons (al_nil)))) ?_
  exact dss_one (f := b_triples_up_to_1) (ds_ret (de_callT (cd_tuple rfl) rfl c.f_tuple PyProof.Rows.Boot.«tuple» (da_cons (de_call (gD := fun ds _ => ds) ((ok_own_triples c).loc) (hr.mono (by decide)) rfl c.m_own_triples (takes_of rfl rfl rfl rfl) bp_own_triples (da_cons (de_var 0) (da_nil)) (al_cons (al_nil))) (da_nil))))
theorem bk_triples_up_to_0_most {K : PySem.W.Frag} (fd : FuncData) (F : FunD K d_triples_up_to.name d_triples_up_to.qual d_triples_up_to.params d_triples_up_to.body d_triples_up_to.scope (d_triples_up_to.dvs K) (d_triples_up_to.kws K) (He.fAd K d_triples_up_to.at_) fd) : Bnd K fd p_triples_up_to 0 ["most"] (fun ds ws => gI [0] ds ws) :=
  bnd_kw F rfl 0 ["most"] [0] rfl (by decide) fun _ _ _ _ _ _ us ws hl hw => match us, ws, hl, hw with | [], [_], _, _ => rfl
theorem bk_is_markov_0_number {K : PySem.W.Frag} (fd : FuncData) (F : FunD K d_is_markov.name d_is_markov.qual d_is_markov.params d_is_markov.body d_is_markov.scope (d_is_markov.dvs K) (d_is_markov.kws K) (He.fAd K d_is_markov.at_) fd) : Bnd K fd p_is_markov 0 ["number"] (fun ds ws => gI [0] ds ws) :=
  bnd_kw F rfl 0 ["number"] [0] rfl (by decide) fun _ _ _ _ _ _ us ws hl hw => match us, ws, hl, hw with | [], [_], _, _ => rfl
theorem bk_triples_of_0_number {K : PySem.W.Frag} (fd : FuncData) (F : FunD K d_triples_of.name d_triples_of.qual d_triples_of.params d_triples_of.body d_triples_of.scope (d_triples_of.dvs K) (d_triples_of.kws K) (He.fAd K d_triples_of.at_) fd) : Bnd K fd p_triples_of 0 ["number"] (fun ds ws => gI [0] ds ws) :=
  bnd_kw F rfl 0 ["number"] [0] rfl (by decide) fun _ _ _ _ _ _ us ws hl hw => match us, ws, hl, hw with | [], [_], _, _ => rfl
theorem bp_triples_up_to {K : PySem.W.Frag} (fd : FuncData) (F : FunD K d_triples_up_to.name d_triples_up_to.qual d_triples_up_to.params d_triples_up_to.body d_triples_up_to.scope (d_triples_up_to.dvs K) (d_triples_up_to.kws K) (He.fAd K d_triples_up_to.at_) fd) : Bnd K fd p_triples_up_to 1 [] (fun ds _ => ds) :=
  bnd_pos F rfl (fun _ _ _ _ _ _ us hl => match us, hl with | [_], _ => rfl) 1 rfl
def b_law_0 : Fs := sFor (iEnm (eOp gAdd (eSl (eVar 0) oNone (oSome (eC (.int 3)))) (eLst (aCons (eCall gSum (aCons (eVar 0) aNil)) aNil)))) (gUnp 2 (gsCons (gSet 1) (gsCons (gSet 2) gsNil))) (sIf (tNotD (tOf (eCall (loc s__law_right) (aCons (eCall (loc s__law_draw) (aCons (eVar 2) (aCons (eVar 1) aNil))) aNil)))) (sRet (eC (.bl false))) sNil)
def b_law_1 : Fs := sAsg (eCall (loc s__law_draw) (aCons (eOp gAdd (eCall gSum (aCons (eVar 0) aNil)) (eCall gLen (aCons (eVar 0) aNil))) (aCons (eC (.int 5)) aNil))) (gSet 3)
def b_law_2 : Fs := sAsg (eOp gAdd (eC (.int 1)) (eCall (loc s__law_digit) (aCons (eVar 3) (aCons (eC (.int 120)) aNil)))) (gSet 4)
def b_law_3 : Fs := sAsg (eCall (loc s__law_tried) (aCons (eVar 4) aNil)) (gSet 5)
def b_law_4 : Fs := sIf (tOf (eOp gNe (eCall gRepr (aCons (eCallK (loc s_triples_up_to) (fun ds ws => gI [0] ds ws) aNil (aCons (eVar 4) aNil)) aNil)) (eCall gRepr (aCons (eCall gTuple (aCons (eVar 5) aNil)) aNil)))) (sRet (eC (.bl false))) sNil
def b_law_5 : Fs := sFor (iRng2D (aCons (eC (.int 1)) (aCons (eOp gAdd (eVar 4) (eC (.int 1))) aNil))) (gSet 6) (sIf (tOrD (tOf (eOp gEq (eOp gMod (eVar 6) (eC (.int 7))) (eC (.int 1)))) (tOf (eOp gEq (eVar 6) (eVar 4)))) (sSeq (sAsg (eLc (iOf (eVar 5)) (gSet 16) (tOf (eOp gEq (eOp gIx (eVar 16) (eC (.int 2))) (eVar 6))) (eVar 16) [16]) (gSet 7))
    (sIf (tOrD (tOf (eOp gNe (eCall gRepr (aCons (eCallK (loc s_triples_of) (fun ds ws => gI [0] ds ws) aNil (aCons (eVar 6) aNil)) aNil)) (eCall gRepr (aCons (eCall gTuple (aCons (eVar 7) aNil)) aNil)))) (tOf (eOp gNe (eCall gRepr (aCons (eCallK (loc s_is_markov) (fun ds ws => gI [0] ds ws) aNil (aCons (eVar 6) aNil)) aNil)) (eCall gRepr (aCons (eOp gNe (eVar 7) (eLst aNil)) aNil))))) (sRet (eC (.bl false))) sNil)) sNil)
def b_law_6 : Fs := sAsg (eLc (iOf (eCall (loc s_triples_up_to) (aCons (eC (.int 1000)) aNil))) (gSet 16) tYesD (eOp gIx (eVar 16) (eC (.int 2))) [16]) (gSet 8)
def b_law_7 : Fs := sIf (tOrD (tOf (eOp gNe (eVar 8) (eLst (aCons (eC (.int 1)) (aCons (eC (.int 2)) (aCons (eC (.int 5)) (aCons (eC (.int 13)) (aCons (eC (.int 29)) (aCons (eC (.int 34)) (aCons (eC (.int 89)) (aCons (eC (.int 169)) (aCons (eC (.int 194)) (aCons (eC (.int 233)) (aCons (eC (.int 433)) (aCons (eC (.int 610)) (aCons (eC (.int 985)) aNil)))))))))))))))) (tOf (eOp gNe (eCall gLen (aCons (eCall (loc s_triples_up_to) (aCons (eOp gPow (eC (.int 10)) (eC (.int 6))) aNil)) aNil)) (eC (.int 40))))) (sRet (eC (.bl false))) sNil
def b_law_8 : Fs := sAsg (eCall (loc s_triple_at) (aCons (eOp gMul (eTup (aCons (eC (.int 0)) aNil)) (eC (.int 300))) aNil)) (gSet 9)
def b_law_9 : Fs := sIf (tOrD (tOf (eOp gNe (eOp gIx (eVar 9) (eC (.int 0))) (eC (.int 1)))) (tOrD (tOf (eOp gNe (eCall (loc s_path_of) (aCons (eVar 9) aNil)) (eOp gMul (eTup (aCons (eC (.int 0)) aNil)) (eC (.int 300))))) (tOf (eOp gNe (eTold (toldF 3 b__law_told) (eCall (loc s_triple_at) (aCons (eOp gMul (eTup (aCons (eC (.int 0)) (aCons (eC (.int 1)) aNil))) (eC (.int 30))) aNil))) (eTup (aCons (eC (.str "many")) (aCons (eC (.int 200)) aNil))))))) (sRet (eC (.bl false))) sNil
def b_law_10 : Fs := sAsg (eOp gAdd (eTup (aCons (eC (.int 0)) (aCons (eC (.int 1)) aNil))) (eOp gMul (eTup (aCons (eC (.int 0)) aNil)) (eC (.int 168)))) (gSet 10)
def b_law_11 : Fs := sIf (tOrD (tOf (eOp gNe (eCall gRepr (aCons (eCall (loc s_triple_at) (aCons (eVar 10) aNil)) aNil)) (eCall gRepr (aCons (eCall (loc s__law_triple) (aCons (eVar 10) aNil)) aNil)))) (tOf (eOp gNe (eTold (toldF 3 b__law_told) (eCall (loc s_triple_at) (aCons (eOp gAdd (eVar 10) (eTup (aCons (eC (.int 0)) aNil))) aNil))) (eTup (aCons (eC (.str "many")) (aCons (eC (.int 200)) aNil)))))) (sRet (eC (.bl false))) sNil
def b_law_12 : Fs := sAsg (eLst (aCons (eTold (toldF 3 b__law_told) (eCall (loc s_triple_at) (aCons (eOp gAdd (eOp gMul (eTup (aCons (eC (.int 0)) (aCons (eC (.int 1)) aNil))) (eC (.int 30))) (eTup (aCons (eC (.int 2)) aNil))) aNil))) aNil)) (gSet 11)
def b_law_13 : Fs := sFor (iOf (eTup (aCons (eOp gMul (eTup (aCons (eC (.int 0)) aNil)) (eC (.int 301))) (aCons (eC .non) (aCons (eLst (aCons (eC (.int 0)) aNil)) (aCons (eC (.str "0")) aNil)))))) (gSet 12) (sExpr (eMeth "list" mAppend (eVar 11) (aCons (eTold (toldF 3 b__law_told) (eCall (loc s_triple_at) (aCons (eVar 12) aNil))) aNil)))
def b_law_14 : Fs := sIf (tOf (eOp gNe (eVar 11) (eOp gAdd (eLst (aCons (eTup (aCons (eC (.str "row")) (aCons (eC (.int 60)) aNil))) aNil)) (eOp gMul (eLst (aCons (eTup (aCons (eC (.str "row")) (aCons (eC .non) aNil))) aNil)) (eC (.int 4)))))) (sRet (eC (.bl false))) sNil
def b_law_15 : Fs := sFor (iOf (eTup (aCons (eTup (aCons (eC (.int 1)) (aCons (eC (.int 1)) (aCons (eC (.int 1)) aNil)))) (aCons (eTup (aCons (eC (.int 1)) (aCons (eC (.int 1)) (aCons (eC (.int 2)) aNil)))) aNil)))) (gSet 13) (sIf (tOrD (tOf (eOp gNe (eTold (toldF 3 b__law_told) (eCall (loc s_path_of) (aCons (eVar 13) aNil))) (eTup (aCons (eC (.str "none")) (aCons (eVar 13) aNil))))) (tOf (eOp gIsNot (eCall (loc s_need_triple) (aCons (eVar 13) aNil)) (eC .non)))) (sRet (eC (.bl false))) sNil)
def b_law_16 : Fs := sFor (iOf (eTup (aCons (eC (.int 0)) (aCons (eUn gNeg (eC (.int 1))) (aCons (eC .non) (aCons (eC (.bl true)) (aCons (eC (.str "5")) (aCons (eOp gAdd (eOp gPow (eC (.int 10)) (eC (.int 60))) (eC (.int 1))) aNil)))))))) (gSet 14) (sFor (iOf (eTup (aCons (eC (.gl "triples_up_to")) (aCons (eC (.gl "triples_of")) (aCons (eC (.gl "is_markov")) aNil))))) (gSet 15) (sIf (tOf (eOp gNe (eCall gRepr (aCons (eTold (toldF 3 b__law_told) (eCallV 15 [("triples_up_to", (loc s_triples_up_to)), ("triples_of", (loc s_triples_of)), ("is_markov", (loc s_is_markov))] (aCons (eVar 14) aNil))) aNil)) (eCall gRepr (aCons (eTup (aCons (eC (.str "number")) (aCons (eVar 14) aNil))) aNil)))) (sRet (eC (.bl false))) sNil))
def b_law_17 : Fs := sRet (eC (.bl true))
def b_law : Fs := sSeq b_law_0 (sSeq b_law_1 (sSeq b_law_2 (sSeq b_law_3 (sSeq b_law_4 (sSeq b_law_5 (sSeq b_law_6 (sSeq b_law_7 (sSeq b_law_8 (sSeq b_law_9 (sSeq b_law_10 (sSeq b_law_11 (sSeq b_law_12 (sSeq b_law_13 (sSeq b_law_14 (sSeq b_law_15 (sSeq b_law_16 (b_law_17)))))))))))))))))
def s_law : List D → Hd → Res D := runF 17 b_law
theorem ok_law {P : Program} {w : World} {K : PySem.W.Frag} {mg : Str → Option Value} {base : Heap} (c : Fct K mg base) : FDx P w K mg (tabsOf K tf) base d_law p_law 10 s_law := by
  refine fd_okC (k := 9) (N := N_law) (fb := b_law) c.F_law sc_law fun A outer s H E hr => ?_
  refine dss_cons (f := b_law_0) (ds_for (passes_of rfl) rfl (di_enum rfl rfl c.f_enumerate (de_op (od_add rfl) (de_sl rfl (de_var 0) (do_none) (do_some (de_int))) (de_lst (da_cons (de_callB (cd_sum rfl rfl) rfl c.f_sum PyProof.Rows.Boot.«sum» (da_cons (de_var 0) (da_nil))) (da_nil))))) (dg_unp rfl rfl (dgs_cons (dg_name 1 sc_law.nd) (dgs_cons (dg_name 2 sc_law.nd) (dgs_nil)))) (dss_one (ds_if (dt_not (dt_val (de_call (gD := fun ds _ => ds) ((ok__law_right c).loc) (hr.mono (by decide)) rfl c.m__law_right (takes_of rfl rfl rfl rfl) bp__law_right (da_cons (de_call (gD := fun ds _ => ds) ((ok__law_draw c).loc) (hr.mono (by decide)) rfl c.m__law_draw (takes_of rfl rfl rfl rfl) bp__law_draw (da_cons (de_var 2) (da_cons (de_var 1) (da_nil))) (al_cons (al_cons (al_nil)))) (da_nil)) (al_cons (al_nil))))) (dss_one (ds_ret (de_bl))) (dss_nil)))) ?_
  refine dss_cons (f := b_law_1) (ds_set 3 sc_law.nd (de_call (gD := fun ds _ => ds) ((ok__law_draw c).loc) (hr.mono (by decide)) rfl c.m__law_draw (takes_of rfl rfl rfl rfl) bp__law_draw (da_cons (de_op (od_add rfl) (de_callB (cd_sum rfl rfl) rfl c.f_sum PyProof.Rows.Boot.«sum» (da_cons (de_var 0) (da_nil))) (de_callB (cd_len rfl) rfl c.f_len PyProof.Rows.Boot.«len» (da_cons (de_var 0) (da_nil)))) (da_cons (de_int) (da_nil))) (al_cons (al_cons (al_nil)))) rfl (Or.inl rfl)) ?_
  refine dss_cons (f := b_law_2) (ds_set 4 sc_law.nd (de_op (od_add rfl) (de_int) (de_call (gD := fun ds _ => ds) ((ok__law_digit c).loc) (hr.mono (by decide)) rfl c.m__law_digit (takes_of rfl rfl rfl rfl) bp__law_digit (da_cons (de_var 3) (da_cons (de_int) (da_nil))) (al_cons (al_cons (al_nil))))) rfl (Or.inl rfl)) ?_
  refine dss_cons (f := b_law_3) (ds_set 5 sc_law.nd (de_call (gD := fun ds _ => ds) ((ok__law_tried c).loc) (hr.mono (by decide)) rfl c.m__law_tried (takes_of rfl rfl rfl rfl) bp__law_tried (da_cons (de_var 4) (da_nil)) (al_cons (al_nil))) rfl (Or.inl rfl)) ?_
  refine dss_cons (f := b_law_4) (ds_if (dt_cmp (od_ne rfl hr.u64) (de_callB (cd_repr rfl hr.gd hr.u64) rfl c.f_repr PyProof.Rows.Boot.«repr» (da_cons (de_callK0 (gD := fun ds ws => gI [0] ds ws) ((ok_triples_up_to c).loc) (hr.mono (by decide)) rfl c.m_triples_up_to (takes_of rfl rfl rfl rfl) bk_triples_up_to_0_most (dk_cons (de_var 4) (dk_nil)) (al_cons (al_nil))) (da_nil))) (de_callB (cd_repr rfl hr.gd hr.u64) rfl c.f_repr PyProof.Rows.Boot.«repr» (da_cons (de_callT (cd_tuple rfl) rfl c.f_tuple PyProof.Rows.Boot.«tuple» (da_cons (de_var 5) (da_nil))) (da_nil))) (by first | rfl | exact nomark _)) (dss_one (ds_ret (de_bl))) (dss_nil)) ?_
  refine dss_cons (f := b_law_5) (ds_for (passes_of rfl) rfl (di_rng2 rfl c.f_range (da_cons (de_int) (da_cons (de_op (od_add rfl) (de_var 4) (de_int)) (da_nil)))) (dg_name 6 sc_law.nd) (dss_one (ds_if (dt_bool (dw_or (dt_cmp (od_eq rfl hr.u64) (de_op (od_mod) (de_var 6) (de_int)) (de_int) (by first | rfl | exact nomark _)) (dw_or1 (dt_cmp (od_eq rfl hr.u64) (de_var 6) (de_var 4) (by first | rfl | exact nomark _))))) (dss_cons (ds_setLc 7 (own := [("triple", 16)]) (ts := [16]) rfl sc_law.nd rfl rfl (sw_true rfl rfl rfl (by decide +kernel)) (di_of rfl (de_var 5)) (blkOk_by (N := N_law) (sc := defScope st_law) (by decide +kernel)) (by decide) (fun _ _ _ _ _ => dg_name 16 sc_law.nd) (fun _ _ _ _ _ => dts_one (dt_cmp (od_eq rfl hr.u64) (de_ix (ixd rfl hr.u1) (de_var 16) (de_int)) (de_var 6) (by first | rfl | exact nomark _))) (fun _ _ _ _ _ => de_var 16))
    (dss_one (ds_if (dt_bool (dw_or (dt_cmp (od_ne rfl hr.u64) (de_callB (cd_repr rfl hr.gd hr.u64) rfl c.f_repr PyProof.Rows.Boot.«repr» (da_cons (de_callK0 (gD := fun ds ws => gI [0] ds ws) ((ok_triples_of c).loc) (hr.mono (by decide)) rfl c.m_triples_of (takes_of rfl rfl rfl rfl) bk_triples_of_0_number (dk_cons (de_var 6) (dk_nil)) (al_cons (al_nil))) (da_nil))) (de_callB (cd_repr rfl hr.gd hr.u64) rfl c.f_repr PyProof.Rows.Boot.«repr» (da_cons (de_callT (cd_tuple rfl) rfl c.f_tuple PyProof.Rows.Boot.«tuple» (da_cons (de_var 7) (da_nil))) (da_nil))) (by first | rfl | exact nomark _)) (dw_or1 (dt_cmp (od_ne rfl hr.u64) (de_callB (cd_repr rfl hr.gd hr.u64) rfl c.f_repr PyProof.Rows.Boot.«repr» (da_cons (de_callK0 (gD := fun ds ws => gI [0] ds ws) ((ok_is_markov c).loc) (hr.mono (by decide)) rfl c.m_is_markov (takes_of rfl rfl rfl rfl) bk_is_markov_0_number (dk_cons (de_var 6) (dk_nil)) (al_cons (al_nil))) (da_nil))) (de_callB (cd_repr rfl hr.gd hr.u64) rfl c.f_repr PyProof.Rows.Boot.«repr» (da_cons (de_cmp (od_ne rfl hr.u64) (de_var 7) (de_lst (da_nil)) (by first | rfl | exact nomark _)) (da_nil))) (by first | rfl | exact nomark _))))) (dss_one (ds_ret (de_bl))) (dss_nil)))) (dss_nil)))) ?_
  refine dss_cons (f := b_law_6) (ds_setLc 8 (own := [("triple", 16)]) (ts := [16]) rfl sc_law.nd rfl rfl (sw_true rfl rfl rfl (by decide +kernel)) (di_of rfl (de_call (gD := fun ds _ => ds) ((ok_triples_up_to c).loc) (hr.mono (by decide)) rfl c.m_triples_up_to (takes_of rfl rfl rfl rfl) bp_triples_up_to (da_cons (de_int) (da_nil)) (al_cons (al_nil)))) (blkOk_by (N := N_law) (sc := defScope st_law) (by decide +kernel)) (by decide) (fun _ _ _ _ _ => dg_name 16 sc_law.nd) (fun _ _ _ _ _ => dts_nil) (fun _ _ _ _ _ => de_ix (ixd rfl hr.u1) (de_var 16) (de_int))) ?_
  refine dss_cons (f := b_law_7) (ds_if (dt_bool (dw_or (dt_cmp (od_ne rfl hr.u64) (de_var 8) (de_lst (da_cons (de_int) (da_cons (de_int) (da_cons (de_int) (da_cons (de_int) (da_cons (de_int) (da_cons (de_int) (da_cons (de_int) (da_cons (de_int) (da_cons (de_int) (da_cons (de_int) (da_cons (de_int) (da_cons (de_int) (da_cons (de_int) (da_nil))))))))))))))) (by first | rfl | exact nomark _)) (dw_or1 (dt_cmp (od_ne rfl hr.u64) (de_callB (cd_len rfl) rfl c.f_len PyProof.Rows.Boot.«len» (da_cons (de_call (gD := fun ds _ => ds) ((ok_triples_up_to c).loc) (hr.mono (by decide)) rfl c.m_triples_up_to (takes_of rfl rfl rfl rfl) bp_triples_up_to (da_cons (de_op (od_pow) (de_int) (de_int)) (da_nil)) (al_cons (al_nil))) (da_nil))) (de_int) (by first | rfl | exact nomark _))))) (dss_one (ds_ret (de_bl))) (dss_nil)) ?_
  refine dss_cons (f := b_law_8) (ds_set 9 sc_law.nd (de_call (gD := fun ds _ => ds) ((ok_triple_at c).loc) (hr.mono (by decide)) rfl c.m_triple_at (takes_of rfl rfl rfl rfl) bp_triple_at (da_cons (de_op (od_mul rfl) (de_tup (da_cons (de_int) (da_nil))) (de_int)) (da_nil)) (al_cons (al_nil))) rfl (Or.inl rfl)) ?_
  refine dss_cons (f := b_law_9) (ds_if (dt_bool (dw_or (dt_cmp (od_ne rfl hr.u64) (de_ix (ixd rfl hr.u1) (de_var 9) (de_int)) (de_int) (by first | rfl | exact nomark _)) (dw_or (dt_cmp (od_ne rfl hr.u64) (de_call (gD := fun ds _ => ds) ((ok_path_of c).loc) (hr.mono (by decide)) rfl c.m_path_of (takes_of rfl rfl rfl rfl) bp_path_of (da_cons (de_var 9) (da_nil)) (al_cons (al_nil))) (de_op (od_mul rfl) (de_tup (da_cons (de_int) (da_nil))) (de_int)) (by first | rfl | exact nomark _)) (dw_or1 (dt_cmp (od_ne rfl hr.u64) (de_told (k := 2) (ok__law_told c) (by decide) (hr.mono (by decide)) rfl c.m__law_told (takes_of rfl rfl rfl rfl) (c.tb _ (List.mem_of_getElem? (i := 3) rfl)) rfl (tabs_mem (List.mem_of_getElem? (i := 3) rfl)) (tabs_one c.nd (List.mem_of_getElem? (i := 3) rfl)) (LamX.lamS_by (sc := defScope st_law) (by decide +kernel)) (fun _ _ _ _ _ _ _ hrl_ => de_call (gD := fun ds _ => ds) ((ok_triple_at c).loc) (hrl_.mono (by decide)) rfl c.m_triple_at (takes_of rfl rfl rfl rfl) bp_triple_at (da_cons (de_op (od_mul rfl) (de_tup (da_cons (de_int) (da_cons (de_int) (da_nil)))) (de_int)) (da_nil)) (al_cons (al_nil)))) (de_tup (da_cons (de_str) (da_cons (de_int) (da_nil)))) (by first | rfl | exact nomark _)))))) (dss_one (ds_ret (de_bl))) (dss_nil)) ?_
  refine dss_cons (f := b_law_10) (ds_set 10 sc_law.nd (de_op (od_add rfl) (de_tup (da_cons (de_int) (da_cons (de_int) (da_nil)))) (de_op (od_mul rfl) (de_tup (da_cons (de_int) (da_nil))) (de_int))) rfl (Or.inr rfl)) ?_
  refine dss_cons (f := b_law_11) (ds_if (dt_bool (dw_or (dt_cmp (od_ne rfl hr.u64) (de_callB (cd_repr rfl hr.gd hr.u64) rfl c.f_repr PyProof.Rows.Boot.«repr» (da_cons (de_call (gD := fun ds _ => ds) ((ok_triple_at c).loc) (hr.mono (by decide)) rfl c.m_triple_at (takes_of rfl rfl rfl rfl) bp_triple_at (da_cons (de_var 10) (da_nil)) (al_cons (al_nil))) (da_nil))) (de_callB (cd_repr rfl hr.gd hr.u64) rfl c.f_repr PyProof.Rows.Boot.«repr» (da_cons (de_call (gD := fun ds _ => ds) ((ok__law_triple c).loc) (hr.mono (by decide)) rfl c.m__law_triple (takes_of rfl rfl rfl rfl) bp__law_triple (da_cons (de_var 10) (da_nil)) (al_cons (al_nil))) (da_nil))) (by first | rfl | exact nomark _)) (dw_or1 (dt_cmp (od_ne rfl hr.u64) (de_told (k := 2) (ok__law_told c) (by decide) (hr.mono (by decide)) rfl c.m__law_told (takes_of rfl rfl rfl rfl) (c.tb _ (List.mem_of_getElem? (i := 3) rfl)) rfl (tabs_mem (List.mem_of_getElem? (i := 3) rfl)) (tabs_one c.nd (List.mem_of_getElem? (i := 3) rfl)) (LamX.lamS_by (sc := defScope st_law) (by decide +kernel)) (fun _ _ _ _ _ _ _ hrl_ => de_call (gD := fun ds _ => ds) ((ok_triple_at c).loc) (hrl_.mono (by decide)) rfl c.m_triple_at (takes_of rfl rfl rfl rfl) bp_triple_at (da_cons (de_op (od_add rfl) (de_var 10) (de_tup (da_cons (de_int) (da_nil)))) (da_nil)) (al_cons (al_nil)))) (de_tup (da_cons (de_str) (da_cons (de_int) (da_nil)))) (by first | rfl | exact nomark _))))) (dss_one (ds_ret (de_bl))) (dss_nil)) ?_
  refine dss_cons (f := b_law_12) (ds_set 11 sc_law.nd (de_lst (da_cons (de_told (k := 2) (ok__law_told c) (by decide) (hr.mono (by decide)) rfl c.m__law_told (takes_of rfl rfl rfl rfl) (c.tb _ (List.mem_of_getElem? (i := 3) rfl)) rfl (tabs_mem (List.mem_of_getElem? (i := 3) rfl)) (tabs_one c.nd (List.mem_of_getElem? (i := 3) rfl)) (LamX.lamS_by (sc := defScope st_law) (by decide +kernel)) (fun _ _ _ _ _ _ _ hrl_ => de_call (gD := fun ds _ => ds) ((ok_triple_at c).loc) (hrl_.mono (by decide)) rfl c.m_triple_at (takes_of rfl rfl rfl rfl) bp_triple_at (da_cons (de_op (od_add rfl) (de_op (od_mul rfl) (de_tup (da_cons (de_int) (da_cons (de_int) (da_nil)))) (de_int)) (de_tup (da_cons (de_int) (da_nil)))) (da_nil)) (al_cons (al_nil)))) (da_nil))) rfl (Or.inl rfl)) ?_
  refine dss_cons (f := b_law_13) (ds_for (passes_of rfl) rfl (di_of rfl (de_tup (da_cons (de_op (od_mul rfl) (de_tup (da_cons (de_int) (da_nil))) (de_int)) (da_cons (de_non) (da_cons (de_lst (da_cons (de_int) (da_nil))) (da_cons (de_str) (da_nil))))))) (dg_name 12 sc_law.nd) (dss_one (ds_expr (de_meth rfl F.plainAttrs_list F.slot_list_append F.type_list_append md_append (de_var 11) (da_cons (de_told (k := 2) (ok__law_told c) (by decide) (hr.mono (by decide)) rfl c.m__law_told (takes_of rfl rfl rfl rfl) (c.tb _ (List.mem_of_getElem? (i := 3) rfl)) rfl (tabs_mem (List.mem_of_getElem? (i := 3) rfl)) (tabs_one c.nd (List.mem_of_getElem? (i := 3) rfl)) (LamX.lamS_by (sc := defScope st_law) (by decide +kernel)) (fun _ _ _ _ _ _ _ hrl_ => de_call (gD := fun ds _ => ds) ((ok_triple_at c).loc) (hrl_.mono (by decide)) rfl c.m_triple_at (takes_of rfl rfl rfl rfl) bp_triple_at (da_cons (de_var 12) (da_nil)) (al_cons (al_nil)))) (da_nil)))))) ?_
  refine dss_cons (f := b_law_14) (ds_if (dt_cmp (od_ne rfl hr.u64) (de_var 11) (de_op (od_add rfl) (de_lst (da_cons (de_tup (da_cons (de_str) (da_cons (de_int) (da_nil)))) (da_nil))) (de_op (od_mul rfl) (de_lst (da_cons (de_tup (da_cons (de_str) (da_cons (de_non) (da_nil)))) (da_nil))) (de_int))) (by first | rfl | exact nomark _)) (dss_one (ds_ret (de_bl))) (dss_nil)) ?_
  refine dss_cons (f := b_law_15) (ds_for (passes_of rfl) rfl (di_of rfl (de_tup (da_cons (de_tup (da_cons (de_int) (da_cons (de_int) (da_cons (de_int) (da_nil))))) (da_cons (de_tup (da_cons (de_int) (da_cons (de_int) (da_cons (de_int) (da_nil))))) (da_nil))))) (dg_name 13 sc_law.nd) (dss_one (ds_if (dt_bool (dw_or (dt_cmp (od_ne rfl hr.u64) (de_told (k := 6) (ok__law_told c) (by decide) (hr.mono (by decide)) rfl c.m__law_told (takes_of rfl rfl rfl rfl) (c.tb _ (List.mem_of_getElem? (i := 3) rfl)) rfl (tabs_mem (List.mem_of_getElem? (i := 3) rfl)) (tabs_one c.nd (List.mem_of_getElem? (i := 3) rfl)) (LamX.lamS_by (sc := defScope st_law) (by decide +kernel)) (fun _ _ _ _ _ _ _ hrl_ => de_call (gD := fun ds _ => ds) ((ok_path_of c).loc) (hrl_.mono (by decide)) rfl c.m_path_of (takes_of rfl rfl rfl rfl) bp_path_of (da_cons (de_var 13) (da_nil)) (al_cons (al_nil)))) (de_tup (da_cons (de_str) (da_cons (de_var 13) (da_nil)))) (by first | rfl | exact nomark _)) (dw_or1 (dt_cmp (od_isnot) (de_call (gD := fun ds _ => ds) ((ok_need_triple c).loc) (hr.mono (by decide)) rfl c.m_need_triple (takes_of rfl rfl rfl rfl) bp_need_triple (da_cons (de_var 13) (da_nil)) (al_cons (al_nil))) (de_non) (by first | rfl | exact nomark _))))) (dss_one (ds_ret (de_bl))) (dss_nil)))) ?_
  refine dss_cons (f := b_law_16) (ds_for (passes_of rfl) rfl (di_of rfl (de_tup (da_cons (de_int) (da_cons (de_un ud_neg (de_int)) (da_cons (de_non) (da_cons (de_bl) (da_cons (de_str) (da_cons (de_op (od_add rfl) (de_op (od_pow) (de_int) (de_int)) (de_int)) (da_nil))))))))) (dg_name 14 sc_law.nd) (dss_one (ds_for (passes_of rfl) rfl (di_of rfl (de_tup (da_cons (de_gl rfl rfl ⟨_, c.m_triples_up_to⟩) (da_cons (de_gl rfl rfl ⟨_, c.m_triples_of⟩) (da_cons (de_gl rfl rfl ⟨_, c.m_is_markov⟩) (da_nil)))))) (dg_name 15 sc_law.nd) (dss_one (ds_if (dt_cmp (od_ne rfl hr.u64) (de_callB (cd_repr rfl hr.gd hr.u64) rfl c.f_repr PyProof.Rows.Boot.«repr» (da_cons (de_told (k := 3) (ok__law_told c) (by decide) (hr.mono (by decide)) rfl c.m__law_told (takes_of rfl rfl rfl rfl) (c.tb _ (List.mem_of_getElem? (i := 3) rfl)) rfl (tabs_mem (List.mem_of_getElem? (i := 3) rfl)) (tabs_one c.nd (List.mem_of_getElem? (i := 3) rfl)) (LamX.lamS_by (sc := defScope st_law) (by decide +kernel)) (fun _ _ _ _ _ _ _ hrl_ => de_callV 15 (L := [("triples_up_to", (loc s_triples_up_to)), ("triples_of", (loc s_triples_of)), ("is_markov", (loc s_is_markov))]) (deeds_cons (gD := fun ds => ds) "triples_up_to" ((ok_triples_up_to c).loc) (hrl_.mono (by decide)) c.m_triples_up_to bp_triples_up_to (deeds_cons (gD := fun ds => ds) "triples_of" ((ok_triples_of c).loc) (hrl_.mono (by decide)) c.m_triples_of bp_triples_of (deeds_cons (gD := fun ds => ds) "is_markov" ((ok_is_markov c).loc) (hrl_.mono (by decide)) c.m_is_markov bp_is_markov (deeds_nil)))) (takes_of rfl rfl rfl rfl) (da_cons (de_var 14) (da_nil)) (al_cons (al_nil)))) (da_nil))) (de_callB (cd_repr rfl hr.gd hr.u64) rfl c.f_repr PyProof.Rows.Boot.«repr» (da_cons (de_tup (da_cons (de_str) (da_cons (de_var 14) (da_nil)))) (da_nil))) (by first | rfl | exact nomark _)) (dss_one (ds_ret (de_bl))) (dss_nil)))))) ?_
  exact dss_one (f := b_law_17) (ds_ret (de_bl))
theorem mkF {K : PySem.W.Frag} {h : Heap} {mg : Str → Option Value} (X : K.In h) (G : h.Ns mainGlobals mg) (z : obsK fs fn K = He.valD fn) (nd : (tf.map fun p => (He.cT K p).2).Nodup) {base : Heap} (tb : ∀ p ∈ tf, LamX.TabB base mg (He.cT K p).1 (He.cT K p).2) : Fct K mg base where
  tb := tb
  nd := nd
  f_sum := He.free_ok X G (fact z 0)
  f_enumerate := He.free_ok X G (fact z 1)
  f_range := He.free_ok X G (fact z 2)
  m__law_mixed := He.glo_ok X G (fact z 3)
  m__law_digit := He.glo_ok X G (fact z 4)
  f_tuple := He.free_ok X G (fact z 5)
  m__law_triple := He.glo_ok X G (fact z 6)
  f_bool := He.free_ok X G (fact z 7)
  f_isinstance := He.free_ok X G (fact z 8)
  f_int := He.free_ok X G (fact z 9)
  m_is_whole := He.glo_ok X G (fact z 10)
  i_MOST_NUMBER := He.int_ok X G (fact z 11)
  f_all := He.free_ok X G (fact z 12)
  f_len := He.free_ok X G (fact z 13)
  m_are_numbers := He.glo_ok X G (fact z 14)
  f_zip := He.free_ok X G (fact z 15)
  m_does_solve := He.glo_ok X G (fact z 16)
  l_MARKOV := litG_ok X G (fact z 17)
  m_wrong_triple := He.glo_ok X G (fact z 18)
  x_BadTriple := xc_ok (own := true) (T := "ValueError") X G (fact z 19) (fun h => by cases h) (by decide) (by decide) (by decide) (by decide) (by decide) (def_ z 24 (d := d_BadTriple_init)) rfl (fun _ => ⟨_, rfl⟩) (fun _ _ _ _ _ _ _ us its hu hi => match us, its, hu, hi with | [_, _], [_], _, _ => ⟨_, rfl, rfl⟩)
  m_need_triple := He.glo_ok X G (fact z 20)
  l_LOW := litG_ok X G (fact z 21)
  x_NoSuch := xc_ok (own := false) (T := "LookupError") X G (fact z 22) (fun _ => ⟨PyProof.Rows.Boot.«LookupError», by decide, by first | rfl | kernel_rfl, by decide +kernel⟩) (by decide) (by decide) (by decide) (by decide) (by decide) (def_ z 25 (d := d_NoSuch_init)) rfl (fun _ => ⟨_, rfl⟩) (fun _ _ _ _ _ _ _ us its hu hi => match us, its, hu, hi with | [_, _], [_], _, _ => ⟨_, rfl, rfl⟩)
  m_need_high := He.glo_ok X G (fact z 23)
  l_TOP := litG_ok X G (fact z 24)
  f_sorted := He.free_ok X G (fact z 25)
  m_own_path := He.glo_ok X G (fact z 26)
  m_path_of := He.glo_ok X G (fact z 27)
  f_repr := He.free_ok X G (fact z 28)
  i_MOST_PATH := He.int_ok X G (fact z 29)
  x_BadRow := xc_ok (own := true) (T := "ValueError") X G (fact z 30) (fun h => by cases h) (by decide) (by decide) (by decide) (by decide) (by decide) (def_ z 26 (d := d_BadRow_init)) rfl (fun _ => ⟨_, rfl⟩) (fun _ _ _ _ _ _ _ us its hu hi => match us, its, hu, hi with | [_, _], [_], _, _ => ⟨_, rfl, rfl⟩)
  m_next_triple := He.glo_ok X G (fact z 31)
  i_MOST_DIGITS := He.int_ok X G (fact z 32)
  x_TooMany := xc_ok0 (own := false) (T := "OverflowError") X G (fact z 33) (fun _ => ⟨PyProof.Rows.Boot.«OverflowError», by decide, by first | rfl | kernel_rfl, by decide +kernel⟩) (by decide) (by decide) (by decide) (by decide) (by decide) (def_ z 27 (d := d_TooMany_init)) (fun _ => ⟨_, rfl⟩) (fun _ _ _ _ _ _ us hu => match us, hu with | [_, _], _ => rfl)
  m_triple_at := He.glo_ok X G (fact z 34)
  i_MOST_LISTED := He.int_ok X G (fact z 35)
  x_BadNumber := xc_ok (own := true) (T := "ValueError") X G (fact z 36) (fun h => by cases h) (by decide) (by decide) (by decide) (by decide) (by decide) (def_ z 28 (d := d_BadNumber_init)) rfl (fun _ => ⟨_, rfl⟩) (fun _ _ _ _ _ _ _ us its hu hi => match us, its, hu, hi with | [_, _], [_], _, _ => ⟨_, rfl, rfl⟩)
  m_need_most := He.glo_ok X G (fact z 37)
  m_own_triples := He.glo_ok X G (fact z 38)
  f_any := He.free_ok X G (fact z 39)
  m_is_markov := He.glo_ok X G (fact z 40)
  m_triples_of := He.glo_ok X G (fact z 41)
  e_BadNumber_TooMany := He.exm_ok (fact z 42)
  m_BadNumber := He.glo_ok X G (fact z 43)
  e_BadRow_TooMany := He.exm_ok (fact z 44)
  m_BadRow := He.glo_ok X G (fact z 45)
  e_BadTriple_TooMany := He.exm_ok (fact z 46)
  m_BadTriple := He.glo_ok X G (fact z 47)
  e_BadText_TooMany := He.exm_ok (fact z 48)
  m_BadText := He.glo_ok X G (fact z 49)
  e_TooMany_TooMany := He.exm_ok (fact z 50)
  m_TooMany := He.glo_ok X G (fact z 51)
  e_NoSuch_TooMany := He.exm_ok (fact z 52)
  m_NoSuch := He.glo_ok X G (fact z 53)
  e_BadNumber_NoSuch := He.exm_ok (fact z 54)
  e_BadRow_NoSuch := He.exm_ok (fact z 55)
  e_BadTriple_NoSuch := He.exm_ok (fact z 56)
  e_BadText_NoSuch := He.exm_ok (fact z 57)
  e_TooMany_NoSuch := He.exm_ok (fact z 58)
  e_NoSuch_NoSuch := He.exm_ok (fact z 59)
  x_BadText := xc_ok (own := true) (T := "ValueError") X G (fact z 60) (fun h => by cases h) (by decide) (by decide) (by decide) (by decide) (by decide) (def_ z 29 (d := d_BadText_init)) rfl (fun _ => ⟨_, rfl⟩) (fun _ _ _ _ _ _ _ us its hu hi => match us, its, hu, hi with | [_, _], [_], _, _ => ⟨_, rfl, rfl⟩)
  e_BadNumber_BadText := He.exm_ok (fact z 61)
  e_BadRow_BadText := He.exm_ok (fact z 62)
  e_BadTriple_BadText := He.exm_ok (fact z 63)
  e_BadText_BadText := He.exm_ok (fact z 64)
  e_TooMany_BadText := He.exm_ok (fact z 65)
  e_NoSuch_BadText := He.exm_ok (fact z 66)
  e_BadNumber_BadRow := He.exm_ok (fact z 67)
  e_BadRow_BadRow := He.exm_ok (fact z 68)
  e_BadTriple_BadRow := He.exm_ok (fact z 69)
  e_BadText_BadRow := He.exm_ok (fact z 70)
  e_TooMany_BadRow := He.exm_ok (fact z 71)
  e_NoSuch_BadRow := He.exm_ok (fact z 72)
  e_BadNumber_BadNumber := He.exm_ok (fact z 73)
  e_BadRow_BadNumber := He.exm_ok (fact z 74)
  e_BadTriple_BadNumber := He.exm_ok (fact z 75)
  e_BadText_BadNumber := He.exm_ok (fact z 76)
  e_TooMany_BadNumber := He.exm_ok (fact z 77)
  e_NoSuch_BadNumber := He.exm_ok (fact z 78)
  e_BadNumber_BadTriple := He.exm_ok (fact z 79)
  e_BadRow_BadTriple := He.exm_ok (fact z 80)
  e_BadTriple_BadTriple := He.exm_ok (fact z 81)
  e_BadText_BadTriple := He.exm_ok (fact z 82)
  e_TooMany_BadTriple := He.exm_ok (fact z 83)
  e_NoSuch_BadTriple := He.exm_ok (fact z 84)
  m__law_told := He.glo_ok X G (fact z 85)
  m__law_right := He.glo_ok X G (fact z 86)
  m__law_draw := He.glo_ok X G (fact z 87)
  m__law_root := He.glo_ok X G (fact z 88)
  m__law_tried := He.glo_ok X G (fact z 89)
  m_triples_up_to := He.glo_ok X G (fact z 90)
  m_law := He.glo_ok X G (fact z 91)
  F__law_mixed := def_ z 0
  F__law_digit := def_ z 1
  F__law_triple := def_ z 2
  F_is_whole := def_ z 3
  F_are_numbers := def_ z 4
  F_does_solve := def_ z 5
  F_wrong_triple := def_ z 6
  F_need_triple := def_ z 7
  F_need_high := def_ z 8
  F_own_path := def_ z 9
  F_path_of := def_ z 10
  F_next_triple := def_ z 11
  F_triple_at := def_ z 12
  F_need_most := def_ z 13
  F_own_triples := def_ z 14
  F_is_markov := def_ z 15
  F_triples_of := def_ z 16
  F__law_told := def_ z 17
  F__law_right := def_ z 18
  F__law_draw := def_ z 19
  F__law_root := def_ z 20
  F__law_tried := def_ z 21
  F_triples_up_to := def_ z 22
  F_law := def_ z 23
end Lw

set_option Elab.async false
set_option linter.all false
set_option maxRecDepth 100000
set_option maxHeartbeats 1000000
namespace Lw
open PySem PySem.Spec PyProof.Rows L2 Mi
abbrev kL : Key := .inr "left"
abbrev kC : Key := .inr "cell"
abbrev kT : Key := .inr "turns"
def stD (l c t : Int) : Ob := .dic [(kL, .int l), (kC, .int c), (kT, .int t)]
theorem mixed_ok (cell k : Int) (h0 : 0 ≤ k) (h1 : k ≤ 100000) (h : Hd) : ∃ m g, s__law_mixed [.int cell, .int k] h = .ok (.int m) (h ++ g) ∧ 0 ≤ m ∧ m < 2147483647 := by
  have hr : Int.fmod k 4 = 0 ∨ Int.fmod k 4 = 1 ∨ Int.fmod k 4 = 2 ∨ Int.fmod k 4 = 3 := by
    rw [Int.fmod_eq_emod_of_nonneg _ (by decide)]
    omega
  obtain ⟨M, hM, hM0, hM1⟩ : ∃ M : Int, atI [D.int 1000000007, .int 998244353, .int 2147483629, .int 1000000009] (Int.fmod k 4) = some (.int M) ∧ 0 < M ∧ M < 2147483630 := by
    rcases hr with e | e | e | e <;> rw [e]
    · exact ⟨1000000007, rfl, by decide, by decide⟩
    · exact ⟨998244353, rfl, by decide, by decide⟩
    · exact ⟨2147483629, rfl, by decide, by decide⟩
    · exact ⟨1000000009, rfl, by decide, by decide⟩
  have hMn : M ≠ 0 := by omega
  have hc0 : 0 ≤ Int.fmod cell M := Int.fmod_nonneg_of_pos _ hM0
  have hc1 : Int.fmod cell M < M := Int.fmod_lt_of_pos _ hM0
  have m1 : mulOk 7919 k = true := by
    unfold mulOk
    rw [Bool.or_eq_true, Bool.or_eq_true, decide_eq_true_eq]
    left; left; decide
  generalize hv : Int.fmod cell M + 7919 * k + 13 = v at *
  have hv0 : 0 ≤ v := by omega
  have hv1 : v < 4294967296 := by omega
  have m2 : mulOk v v = true := by
    unfold mulOk
    rw [Bool.or_eq_true, Bool.or_eq_true, decide_eq_true_eq]
    left; left; omega
  have m3 : mulOk (Int.fmod (v * v) 2147483647) 48271 = true := by
    unfold mulOk
    rw [Bool.or_eq_true, Bool.or_eq_true, decide_eq_true_eq, decide_eq_true_eq]
    left; right; decide
  refine ⟨Int.fmod (Int.fmod (v * v) 2147483647 * 48271) 2147483647, [.lst [.int 1000000007, .int 998244353, .int 2147483629, .int 1000000009]], ?_, Int.fmod_nonneg_of_pos _ (by decide), Int.fmod_lt_of_pos _ (by decide)⟩
  have b0 : b__law_mixed_0 [some (.int cell), some (.int k), none] h = .nx [some (.int cell), some (.int k), some (.int v)] (h ++ [.lst [.int 1000000007, .int 998244353, .int 2147483629, .int 1000000009]]) := by
    simp [b__law_mixed_0, gMod, gMul, hM, hMn, m1, hv]
  have b1 : b__law_mixed_1 [some (.int cell), some (.int k), some (.int v)] (h ++ [.lst [.int 1000000007, .int 998244353, .int 2147483629, .int 1000000009]]) = .rt (.int (Int.fmod (Int.fmod (v * v) 2147483647 * 48271) 2147483647)) (h ++ [.lst [.int 1000000007, .int 998244353, .int 2147483629, .int 1000000009]]) := by
    generalize (h ++ [Ob.lst [D.int 1000000007, .int 998244353, .int 2147483629, .int 1000000009]]) = h'
    simp [b__law_mixed_1, gMod, gMul, m2, m3]
  exact run_rt [some (.int cell), some (.int k), none] ((seq_nx b0).trans b1)
/-- the state at s: what is left is not negative, at most n turns were made -/
def St (s : Nat) (n : Int) (h : Hd) : Prop := ∃ l c t, h[s]? = some (stD l c t) ∧ 0 ≤ l ∧ 0 ≤ t ∧ t ≤ n
theorem St.keep {s : Nat} {n : Int} {h h' : Hd} (a : St s n h) (k : Kp [] h h') : St s n h' := by
  obtain ⟨l, c, t, e, r⟩ := a
  exact ⟨l, c, t, k.at_ _ _ (by simp) e, r⟩
theorem St.lt {s : Nat} {n : Int} {h : Hd} (a : St s n h) : s < h.length := by
  obtain ⟨l, c, t, e, r⟩ := a
  exact (List.getElem?_eq_some_iff.mp e).1
theorem put_T (l c t x : D) : putD [(kL, l), (kC, c), (kT, t)] kT x = [(kL, l), (kC, c), (kT, x)] := rfl
theorem put_L (l c t x : D) : putD [(kL, l), (kC, c), (kT, t)] kL x = [(kL, x), (kC, c), (kT, t)] := rfl
theorem val_L (l c t : D) : valD [(kL, l), (kC, c), (kT, t)] kL = some l := rfl
theorem val_C (l c t : D) : valD [(kL, l), (kC, c), (kT, t)] kC = some c := rfl
theorem val_T (l c t : D) : valD [(kL, l), (kC, c), (kT, t)] kT = some t := rfl
theorem ix_L {h : Hd} {s : Nat} {l c t : Int} (e : h[s]? = some (stD l c t)) : gIx (.ref s) (.str "left") h = .ok (.int l) h := by
  unfold gIx; dsimp only; rw [e]; rfl
theorem ix_C {h : Hd} {s : Nat} {l c t : Int} (e : h[s]? = some (stD l c t)) : gIx (.ref s) (.str "cell") h = .ok (.int c) h := by
  unfold gIx; dsimp only; rw [e]; rfl
theorem ix_T {h : Hd} {s : Nat} {l c t : Int} (e : h[s]? = some (stD l c t)) : gIx (.ref s) (.str "turns") h = .ok (.int t) h := by
  unfold gIx; dsimp only; rw [e]; rfl
theorem set_L {h : Hd} {s : Nat} {l c t x : Int} (e : h[s]? = some (stD l c t)) : setAt (.ref s) (.str "left") (.int x) h = some (h.set s (stD x c t)) := by
  unfold setAt; dsimp only; rw [e]; rfl
theorem set_T {h : Hd} {s : Nat} {l c t x : Int} (e : h[s]? = some (stD l c t)) : setAt (.ref s) (.str "turns") (.int x) h = some (h.set s (stD l c x)) := by
  unfold setAt; dsimp only; rw [e]; rfl
theorem store_ok {fe fo fi : Fe} {env : En} {h h1 h2 h3 h4 : Hd} {v o i : D} (e1 : fe env h = .ok v h1) (e2 : fo env h1 = .ok o h2) (e3 : fi env h2 = .ok i h3) (e4 : setAt o i v h3 = some h4) : sStore fe fo fi env h = .nx env h4 := by
  unfold sStore
  show (match fe env h with
    | .ok v h1 => sOf fo (fun o => sOf fi fun i env h => match setAt o i v h with
      | some h1 => .nx env h1
      | none => .no) env h1
    | .ex e h1 => SRes.ex e env h1
    | .no => .no) = _
  rw [e1]
  show (match fo env h1 with
    | .ok o h1 => sOf fi (fun i env h => match setAt o i v h with
      | some h1 => .nx env h1
      | none => .no) env h1
    | .ex e h1 => SRes.ex e env h1
    | .no => .no) = _
  rw [e2]
  show (match fi env h2 with
    | .ok i h1 => (match setAt o i v h1 with
      | some h1 => SRes.nx env h1
      | none => .no)
    | .ex e h1 => SRes.ex e env h1
    | .no => .no) = _
  rw [e3]
  dsimp only
  rw [e4]
theorem mixedL_ok (cell k : Int) (h0 : 0 ≤ k) (h1 : k ≤ 100000) (h : Hd) : ∃ m g, loc s__law_mixed [.int cell, .int k] h = .ok (.int m) (h ++ g) ∧ 0 ≤ m ∧ m < 2147483647 := by
  obtain ⟨m, g, e, m0, m1⟩ := mixed_ok cell k h0 h1 []
  refine ⟨m, [], ?_, m0, m1⟩
  rw [List.append_nil]
  exact loc_ok e rfl rfl
theorem digit_ok (s : Nat) (n below : Int) (hb : 1 ≤ below) (hb2 : below < 1000000) (hn : n ≤ 90000) (h : Hd) (st : St s n h) : ∃ d h', s__law_digit [.ref s, .int below] h = .ok (.int d) h' ∧ 0 ≤ d ∧ d < below ∧ St s (n + 4) h' ∧ Kp [s] h h' := by
  obtain ⟨l, c, t, e, hl, ht, htn⟩ := st
  -- what stands behind the filling up
  have fill : ∃ v h1 l1 t1, b__law_digit_0 [some (.ref s), some (.int below), none, none] h = .nx [some (.ref s), some (.int below), v, none] h1 ∧ h1[s]? = some (stD l1 c t1) ∧ 0 ≤ l1 ∧ 0 ≤ t1 ∧ t1 ≤ n + 4 ∧ Kp [s] h h1 := by
    have tst : tOf (eOp gEq (eOp gIx (eVar 0) (eC (.str "left"))) (eC (.int 0))) [some (.ref s), some (.int below), none, none] h = .ok (decide (l = 0)) h := by
      refine tOf_ok ((op_ok ((op_ok (x := .ref s) (y := .str "left") rfl rfl).trans (ix_L e)) rfl).trans ?_)
      rfl
    by_cases h0 : l = 0
    · have key := for_inv (src := rngS 0 4 1) (tg := gSet 2) (body := sSeq (sStore (eOp gAdd (eOp gIx (eVar 0) (eC (.str "turns"))) (eC (.int 1))) (eVar 0) (eC (.str "turns")))
        (sStore (eOp gAdd (eOp gMul (eOp gIx (eVar 0) (eC (.str "left"))) (eC (.int 2147483647))) (eCall (loc s__law_mixed) (aCons (eOp gIx (eVar 0) (eC (.str "cell"))) (aCons (eOp gIx (eVar 0) (eC (.str "turns"))) aNil)))) (eVar 0) (eC (.str "left"))))
        (env := [some (.ref s), some (.int below), none, none]) (h := h) 4 (fun i => .int (0 + (i : Nat) * 1)) (fun i env h1 => (∃ v, env = [some (.ref s), some (.int below), v, none]) ∧ (∃ l1 t1, h1[s]? = some (stD l1 c t1) ∧ 0 ≤ l1 ∧ 0 ≤ t1 ∧ t1 ≤ n + (i : Nat)) ∧ Kp [s] h h1)
        ⟨⟨none, rfl⟩, ⟨l, t, e, hl, ht, by omega⟩, Kp.refl⟩ ?_ ?_ (by rw [most_eq]; decide)
      · obtain ⟨env', h1, e1, ⟨v, rfl⟩, ⟨l1, t1, q1, q2, q3, q4⟩, kp⟩ := key
        refine ⟨v, h1, l1, t1, ?_, q1, q2, q3, q4, kp⟩
        unfold b__law_digit_0
        rw [if_ok tst, decide_eq_true h0, if_pos rfl, sFor_ok (rng1_ok (j := 4) (h1 := h) rfl (rng_small (by decide) (by decide)))]
        exact e1
      · rintro i env h1 hi ⟨⟨v, rfl⟩, ⟨l1, t1, q1, q2, q3, q4⟩, kp⟩
        have hs1 : s < h1.length := (List.getElem?_eq_some_iff.mp q1).1
        have q5 : (h1.set s (stD l1 c (t1 + 1)))[s]? = some (stD l1 c (t1 + 1)) := List.getElem?_set_self hs1
        obtain ⟨m, g, em, m0, m1⟩ := mixedL_ok c (t1 + 1) (by omega) (by omega) (h1.set s (stD l1 c (t1 + 1)))
        have q6 : (h1.set s (stD l1 c (t1 + 1)) ++ g)[s]? = some (stD l1 c (t1 + 1)) := app_old q5
        have hs2 : s < (h1.set s (stD l1 c (t1 + 1)) ++ g).length := (List.getElem?_eq_some_iff.mp q6).1
        have mo : mulOk l1 2147483647 = true := by
          unfold mulOk
          rw [Bool.or_eq_true, Bool.or_eq_true, decide_eq_true_eq, decide_eq_true_eq]
          left; right; decide
        refine ⟨rng_item hi, [some (.ref s), some (.int below), some (.int (0 + (i : Nat) * 1)), none], (h1.set s (stD l1 c (t1 + 1)) ++ g).set s (stD (l1 * 2147483647 + m) c (t1 + 1)), ?_, ⟨_, rfl⟩, ⟨l1 * 2147483647 + m, t1 + 1, List.getElem?_set_self hs2, by omega, by omega, by omega⟩, ?_⟩
        · have w1 : sStore (eOp gAdd (eOp gIx (eVar 0) (eC (.str "turns"))) (eC (.int 1))) (eVar 0) (eC (.str "turns")) [some (.ref s), some (.int below), some (.int (0 + (i : Nat) * 1)), none] h1 = .nx [some (.ref s), some (.int below), some (.int (0 + (i : Nat) * 1)), none] (h1.set s (stD l1 c (t1 + 1))) :=
            Lw.store_ok ((op_ok ((op_ok (x := .ref s) (y := .str "turns") rfl rfl).trans (ix_T q1)) rfl).trans rfl) rfl rfl (set_T q1)
          have w2 : sStore (eOp gAdd (eOp gMul (eOp gIx (eVar 0) (eC (.str "left"))) (eC (.int 2147483647))) (eCall (loc s__law_mixed) (aCons (eOp gIx (eVar 0) (eC (.str "cell"))) (aCons (eOp gIx (eVar 0) (eC (.str "turns"))) aNil)))) (eVar 0) (eC (.str "left")) [some (.ref s), some (.int below), some (.int (0 + (i : Nat) * 1)), none] (h1.set s (stD l1 c (t1 + 1))) = .nx [some (.ref s), some (.int below), some (.int (0 + (i : Nat) * 1)), none] ((h1.set s (stD l1 c (t1 + 1)) ++ g).set s (stD (l1 * 2147483647 + m) c (t1 + 1))) := by
            refine Lw.store_ok (h1 := h1.set s (stD l1 c (t1 + 1)) ++ g) (v := .int (l1 * 2147483647 + m)) ?_ rfl rfl (set_L q6)
            have p1 : eOp gMul (eOp gIx (eVar 0) (eC (.str "left"))) (eC (.int 2147483647)) [some (.ref s), some (.int below), some (.int (0 + (i : Nat) * 1)), none] (h1.set s (stD l1 c (t1 + 1))) = .ok (.int (l1 * 2147483647)) (h1.set s (stD l1 c (t1 + 1))) := by
              refine (op_ok ((op_ok (x := .ref s) (y := .str "left") rfl rfl).trans (ix_L q5)) rfl).trans ?_
              unfold gMul
              dsimp only
              rw [if_pos mo]
            have p2 : eCall (loc s__law_mixed) (aCons (eOp gIx (eVar 0) (eC (.str "cell"))) (aCons (eOp gIx (eVar 0) (eC (.str "turns"))) aNil)) [some (.ref s), some (.int below), some (.int (0 + (i : Nat) * 1)), none] (h1.set s (stD l1 c (t1 + 1))) = .ok (.int m) (h1.set s (stD l1 c (t1 + 1)) ++ g) :=
              (call_ok (cons_ok ((op_ok (x := .ref s) (y := .str "cell") rfl rfl).trans (ix_C q5)) (cons_ok ((op_ok (x := .ref s) (y := .str "turns") rfl rfl).trans (ix_T q5)) rfl))).trans em
            exact (op_ok p1 p2).trans rfl
          show (match sSeq _ _ [some (.ref s), some (.int below), some (.int (0 + (i : Nat) * 1)), none] h1 with
            | .ct env2 h2 => SRes.nx env2 h2
            | r => r) = _
          rw [seq_nx w1, w2]
        · exact ((kp.trans (Kp.set (by simp))).trans Kp.app).trans (Kp.set (by simp))
      · rintro env h1 _
        exact rng_stop
    · refine ⟨none, h, l, t, ?_, e, hl, ht, by omega, Kp.refl⟩
      unfold b__law_digit_0
      rw [if_ok tst, decide_eq_false h0, if_neg (by decide)]
      rfl
  obtain ⟨v, h1, l1, t1, f1, q1, q2, q3, q4, kp⟩ := fill
  have hs1 : s < h1.length := (List.getElem?_eq_some_iff.mp q1).1
  have hbn : below ≠ 0 := by omega
  have d0 : 0 ≤ Int.fmod l1 below := Int.fmod_nonneg_of_pos _ (by omega)
  have d1 : Int.fmod l1 below < below := Int.fmod_lt_of_pos _ (by omega)
  have d2 : 0 ≤ Int.fdiv l1 below := Int.fdiv_nonneg q2 (by omega)
  refine ⟨Int.fmod l1 below, h1.set s (stD (Int.fdiv l1 below) c t1), ?_, d0, d1, ⟨_, c, t1, List.getElem?_set_self hs1, d2, q3, q4⟩, kp.trans (Kp.set (by simp))⟩
  have b1 : b__law_digit_1 [some (.ref s), some (.int below), v, none] h1 = .nx [some (.ref s), some (.int below), v, some (.int (Int.fmod l1 below))] h1 := by
    unfold b__law_digit_1
    refine asg_ok (i := 3) ((op_ok ((op_ok (x := .ref s) (y := .str "left") rfl rfl).trans (ix_L q1)) rfl).trans ?_) (by simp)
    unfold gMod
    dsimp only
    rw [if_pos (decide_eq_true hbn)]
  have b2 : b__law_digit_2 [some (.ref s), some (.int below), v, some (.int (Int.fmod l1 below))] h1 = .nx [some (.ref s), some (.int below), v, some (.int (Int.fmod l1 below))] (h1.set s (stD (Int.fdiv l1 below) c t1)) := by
    unfold b__law_digit_2
    refine Lw.store_ok (h1 := h1) (v := .int (Int.fdiv l1 below)) ((op_ok ((op_ok (x := .ref s) (y := .str "left") rfl rfl).trans (ix_L q1)) rfl).trans ?_) rfl rfl (set_L q1)
    unfold gFdv
    dsimp only
    have hb3 : below.natAbs < 1073741824 := by omega
    rw [if_pos (by rw [decide_eq_true hbn, decide_eq_true hb3]; rfl)]
  exact run_rt [some (.ref s), some (.int below), none, none] ((seq_nx f1).trans ((seq_nx b1).trans ((seq_nx b2).trans (ret_ok rfl))))
theorem pairs_cons {k v : Fe} {r : List (Fe × Fe)} {env : En} {h h1 h2 h3 : Hd} {x y : D} {ky : Key} {ps : List (Key × D)} (e1 : k env h = .ok x h1) (e2 : v env h1 = .ok y h2) (e3 : pairsD r env h2 = .ok ps h3) (e4 : keyD x = some ky) : pairsD ((k, v) :: r) env h = .ok ((ky, y) :: ps) h3 := by
  unfold pairsD
  rw [e1]
  show (v env h1).bind (fun y h2 => (pairsD r env h2).bind fun ps h3 => match keyD x with
    | some ky => Res.ok ((ky, y) :: ps) h3
    | none => .no) = _
  rw [e2]
  show (pairsD r env h2).bind (fun ps h3 => match keyD x with
    | some ky => Res.ok ((ky, y) :: ps) h3
    | none => .no) = _
  rw [e3]
  show (match keyD x with
    | some ky => Res.ok ((ky, y) :: ps) h3
    | none => .no) = _
  rw [e4]
theorem draw_ok (cell : Int) (k : Nat) (hk : k ≤ 9) (h : Hd) : ∃ h', s__law_draw [.int cell, .int (k : Nat)] h = .ok (.ref h.length) h' ∧ St h.length 9000 h' ∧ Kp [] h h' := by
  have m1 : mulOk 1000 (k : Int) = true := by
    unfold mulOk
    rw [Bool.or_eq_true, Bool.or_eq_true, decide_eq_true_eq]
    left; left; decide
  have p1 : eOp gPow (eC (.int 10)) (eC (.int 18)) [some (.int cell), some (.int (k : Nat))] (h ++ [.dic []]) = .ok (.int 1000000000000000000) (h ++ [.dic []]) := by
    refine (op_ok rfl rfl).trans ?_
    rfl
  have l1 : ∃ l, 0 ≤ l ∧ eIf (tOf (eOp gGe (eVar 0) (eOp gPow (eC (.int 10)) (eC (.int 18))))) (eVar 0) (eC (.int 0)) [some (.int cell), some (.int (k : Nat))] (h ++ [.dic []]) = .ok (.int l) (h ++ [.dic []]) := by
    have t : tOf (eOp gGe (eVar 0) (eOp gPow (eC (.int 10)) (eC (.int 18)))) [some (.int cell), some (.int (k : Nat))] (h ++ [.dic []]) = .ok (decide (1000000000000000000 ≤ cell)) (h ++ [.dic []]) := tOf_ok ((op_ok rfl p1).trans rfl)
    by_cases hc : (1000000000000000000 : Int) ≤ cell
    · refine ⟨cell, by omega, ?_⟩
      show (tOf _ _ (h ++ [.dic []])).bind _ = _
      rw [t, decide_eq_true hc]
      rfl
    · refine ⟨0, by decide, ?_⟩
      show (tOf _ _ (h ++ [.dic []])).bind _ = _
      rw [t, decide_eq_false hc]
      rfl
  obtain ⟨l, hl, l2⟩ := l1
  have t2 : eOp gMul (eC (.int 1000)) (eVar 1) [some (.int cell), some (.int (k : Nat))] (h ++ [.dic []]) = .ok (.int (1000 * (k : Int))) (h ++ [.dic []]) := by
    refine (op_ok rfl rfl).trans ?_
    unfold gMul
    dsimp only
    rw [if_pos m1]
  refine ⟨h ++ [stD l cell (1000 * (k : Int))], ?_, ⟨l, cell, 1000 * (k : Int), by rw [app_at0]; rfl, hl, by omega, by omega⟩, Kp.app⟩
  have b0 : b__law_draw_0 [some (.int cell), some (.int (k : Nat))] h = .rt (.ref h.length) (h ++ [stD l cell (1000 * (k : Int))]) := by
    unfold b__law_draw_0
    refine ret_ok ?_
    unfold eDict
    have pr : pairsD [(eC (.str "left"), eIf (tOf (eOp gGe (eVar 0) (eOp gPow (eC (.int 10)) (eC (.int 18))))) (eVar 0) (eC (.int 0))), (eC (.str "cell"), eVar 0), (eC (.str "turns"), eOp gMul (eC (.int 1000)) (eVar 1))] [some (.int cell), some (.int (k : Nat))] (h ++ [.dic []]) =
        .ok [(kL, .int l), (kC, .int cell), (kT, .int (1000 * (k : Int)))] (h ++ [.dic []]) := by
      exact pairs_cons rfl l2 (pairs_cons rfl rfl (pairs_cons rfl t2 rfl rfl) rfl) rfl
    rw [pr]
    show (if (emptyDic ((h ++ [Ob.dic []])[h.length]?) && decide (3 ≤ 15)) = true then Res.ok (D.ref h.length) ((h ++ [Ob.dic []]).set h.length (.dic (mergeD [] [(kL, .int l), (kC, .int cell), (kT, .int (1000 * (k : Int)))]))) else .no) = _
    rw [app_at0, app_set0]
    rfl
  exact run_rt [some (.int cell), some (.int (k : Nat))] b0
theorem drawL_ok (cell : Int) (k : Nat) (hk : k ≤ 9) (h : Hd) : ∃ h', loc s__law_draw [.int cell, .int (k : Nat)] h = .ok (.ref h.length) h' ∧ St h.length 9000 h' ∧ Kp [] h h' := by
  obtain ⟨h1, e1, st1, _⟩ := draw_ok cell k hk []
  obtain ⟨h2, e2, st2, k2⟩ := draw_ok cell k hk h
  refine ⟨h2, ?_, st2, k2⟩
  rw [loc_fall e1]
  · exact e2
  · obtain ⟨l, c, t, q, _⟩ := st1
    unfold outD
    rw [if_neg (by unfold pur; decide)]
    dsimp only
    rw [q]
    rfl
theorem digitL_ok (s : Nat) (n below : Int) (hb : 1 ≤ below) (hb2 : below < 1000000) (hn : n ≤ 90000) (h : Hd) (st : St s n h) : ∃ d h', loc s__law_digit [.ref s, .int below] h = .ok (.int d) h' ∧ 0 ≤ d ∧ d < below ∧ St s (n + 4) h' ∧ Kp [s] h h' := by
  rw [loc_plain rfl]
  exact digit_ok s n below hb hb2 hn h st
end Lw

set_option Elab.async false
set_option linter.all false
set_option maxRecDepth 100000
set_option maxHeartbeats 1000000
namespace Lw
open PySem PySem.Spec PyProof.Rows L2 Mi
theorem St.mono {s : Nat} {n m : Int} {h : Hd} (a : St s n h) (hm : n ≤ m) : St s m h := by
  obtain ⟨l, c, t, e, r1, r2, r3⟩ := a
  exact ⟨l, c, t, e, r1, r2, by omega⟩
theorem St.setNew {s k : Nat} {n : Int} {h : Hd} {o : Ob} (a : St s n h) (hk : s ≠ k) : St s n (h.set k o) := by
  obtain ⟨l, c, t, e, r⟩ := a
  exact ⟨l, c, t, by rw [List.getElem?_set_ne (Ne.symm hk)]; exact e, r⟩
theorem St.app {s : Nat} {n : Int} {h g : Hd} (a : St s n h) : St s n (h ++ g) := by
  obtain ⟨l, c, t, e, r⟩ := a
  exact ⟨l, c, t, app_old e, r⟩
/-- drawing a list: el draws one thing of the state at each turn -/
theorem lc_draw {s n : Nat} {v : Nat} {el : Fe} {env : En} {h : Hd} {N : Int} {Y : D → Prop} (st : St s N h) (hv : v < env.length) (hn : n ≤ 1000)
    (e : ∀ (i : Nat) h1 (M : Int), i < n → M ≤ N + 4 * n → St s M h1 → ∃ d h2, el (env.set v (some (.int i))) h1 = .ok d h2 ∧ Y d ∧ St s (M + 4) h2 ∧ Kp [s] h1 h2) :
    ∃ h' ds, lcL (rngS 0 n 1) (gSet v) tYesD el env h.length most 0 (h ++ [.lst []]) = .ok (.ref h.length) h' ∧ h'[h.length]? = some (.lst ds) ∧ ds.length = n ∧ (∀ d ∈ ds, Y d) ∧ St s (N + 4 * n) h' ∧ Kp [s] h h' := by
  have hs : s < h.length := st.lt
  have key := lc_inv (src := rngS 0 n 1) (tg := gSet v) (tst := tYesD) (el := el) (env := env) (h := h) n (fun i => .int (0 + (i : Nat) * 1))
    (fun i hh acc => St s (N + 4 * i) hh ∧ Kp [s] h hh ∧ acc.length = i ∧ ∀ d ∈ acc, Y d) ⟨st.app.mono (by omega), Kp.app, rfl, fun d hd => by cases hd⟩ (by
      rintro i hh acc hi ⟨st1, kp, hl, hy⟩ qk
      obtain ⟨d, h2, e2, yd, st2, k2⟩ := e i hh (N + 4 * i) hi (by omega) st1
      refine ⟨rng_item hi, [d], h2, turn_yes' hv (by simpa using e2), k2.at_ _ _ (by simp; omega) qk, (st2.mono (by omega)).setNew (by omega), (kp.trans k2).setNew (Nat.le_refl _), by simp [hl], ?_⟩
      intro z hz
      rcases List.mem_append.mp hz with hz | hz
      · exact hy z hz
      · rw [List.mem_singleton.mp hz]; exact yd) (by
      rintro hh acc _ _
      exact rng_stop) (by omega)
  obtain ⟨h', ds, e', q, _, st', kp, hl, hy⟩ := key
  exact ⟨h', ds, e', q, hl, hy, st', kp⟩
theorem told_right {th : Hd → Res D} {h h1 : Hd} {d : D} (e : th h = .ok d h1) : toldF 3 b__law_told th h = .ok (.tup [.str "right", d]) h1 := by
  simp [b__law_told, b__law_told_0, b__law_told_1, b__law_told_2, e]
abbrev CLS : List Cla := [(mt_BadTriple, fun n_ => sAsg (eTup (aCons (eC (.str "triple")) (aCons (eFld n_ "place" ["BadTriple"] (eVar 2)) aNil))) (gSet 1)), (mt_BadNumber, fun n_ => sAsg (eTup (aCons (eC (.str "number")) (aCons (eFld n_ "value" ["BadNumber"] (eVar 2)) aNil))) (gSet 1)), (mt_BadRow, fun n_ => sAsg (eTup (aCons (eC (.str "row")) (aCons (eFld n_ "place" ["BadRow"] (eVar 2)) aNil))) (gSet 1)), (mt_BadText, fun n_ => sAsg (eTup (aCons (eC (.str "text")) (aCons (eFld n_ "place" ["BadText"] (eVar 2)) aNil))) (gSet 1)), (mt_NoSuch, fun n_ => sAsg (eTup (aCons (eC (.str "none")) (aCons (eFld n_ "value" ["NoSuch"] (eVar 2)) aNil))) (gSet 1)), (mt_TooMany, fun n_ => sAsg (eTup (aCons (eC (.str "many")) (aCons (eFld n_ "most" ["TooMany"] (eVar 2)) aNil))) (gSet 1))]
theorem told_ex {th : Hd → Res D} {h h1 : Hd} {c f k : Str} {v : D} (e : th h = .ex ⟨c, f, v⟩ h1) (pk : ∃ g : Nat → Fs, pickC c CLS = some (some g) ∧ ∀ n, g n = sAsg (eTup (aCons (eC (.str k)) (aCons (eFld n f [c] (eVar 2)) aNil))) (gSet 1)) : toldF 3 b__law_told th h = .ok (.tup [.str k, v]) h1 := by
  obtain ⟨g, pk, hg⟩ := pk
  have b0 : b__law_told_0 th [some (.lam 0), none, none] h = .nx [some (.lam 0), some (.tup []), none] h := rfl
  have b1 : b__law_told_1 th [some (.lam 0), some (.tup []), none] h = .nx [some (.lam 0), some (.tup [.str k, v]), none] h1 := by
    unfold b__law_told_1
    refine (tryAll_ex (e := ⟨c, f, v⟩) (env1 := [some (.lam 0), some (.tup []), none]) (h1 := h1) (f := g) (asg_ex (cons_ex2 rfl ?_)) pk).trans ?_
    · exact e
    · rw [hg, asg_ok (i := 1) (tup_ok (cons_ok rfl (cons_ok (fld_ok rfl) rfl)) (by simp)) (by simp)]
      rfl
  show (match b__law_told th [some (.lam 0), none, none] h with
    | .nx _ h' => Res.ok D.non h'
    | .rt d h' => .ok d h'
    | .ex e _ h' => .ex e h'
    | _ => .no) = _
  have : b__law_told th [some (.lam 0), none, none] h = .rt (.tup [.str k, v]) h1 := (seq_nx b0).trans ((seq_nx b1).trans (ret_ok rfl))
  rw [this]
def anyL (F : List D → Hd → Res D) (ds : List D) : Bool := match valL F ds with
  | some _ => true
  | none => false
theorem anyL_ok {F : List D → Hd → Res D} {ds : List D} (q : anyL F ds = true) : ∃ d, ∀ h, loc F ds h = .ok d h := by
  unfold anyL at q
  split at q
  · rename_i d e
    exact ⟨d, fun h => valL_ok e h⟩
  · cases q
def rep0 (x : D) : Bool := sameD x x && okR x []
theorem rep0_ok {x : D} (q : rep0 x = true) : ∃ s, ∀ h, gRepr [x] h = .ok (.str s) h := by
  obtain ⟨q1, q2⟩ := He.ba q
  obtain ⟨d, e, ok⟩ := okR_ok q2
  exact ⟨d.shown, fun h => repr_ok ((toP_same (h := h) (h' := []) q1).trans e) ok⟩
theorem told_row {th : Hd → Res D} {h h1 : Hd} {v : D} (e : th h = .ex ⟨"BadRow", "place", v⟩ h1) : toldF 3 b__law_told th h = .ok (.tup [.str "row", v]) h1 := told_ex e ⟨_, rfl, fun _ => rfl⟩
theorem told_triple {th : Hd → Res D} {h h1 : Hd} {v : D} (e : th h = .ex ⟨"BadTriple", "place", v⟩ h1) : toldF 3 b__law_told th h = .ok (.tup [.str "triple", v]) h1 := told_ex e ⟨_, rfl, fun _ => rfl⟩
theorem told_number {th : Hd → Res D} {h h1 : Hd} {v : D} (e : th h = .ex ⟨"BadNumber", "value", v⟩ h1) : toldF 3 b__law_told th h = .ok (.tup [.str "number", v]) h1 := told_ex e ⟨_, rfl, fun _ => rfl⟩
theorem told_many {th : Hd → Res D} {h h1 : Hd} {v : D} (e : th h = .ex ⟨"TooMany", "most", v⟩ h1) : toldF 3 b__law_told th h = .ok (.tup [.str "many", v]) h1 := told_ex e ⟨_, rfl, fun _ => rfl⟩
theorem told_none {th : Hd → Res D} {h h1 : Hd} {v : D} (e : th h = .ex ⟨"NoSuch", "value", v⟩ h1) : toldF 3 b__law_told th h = .ok (.tup [.str "none", v]) h1 := told_ex e ⟨_, rfl, fun _ => rfl⟩
end Lw

set_option Elab.async false
set_option linter.all false
set_option maxRecDepth 100000
set_option maxHeartbeats 1000000
namespace Lw
open PySem PySem.Spec PyProof.Rows L2 Mi
abbrev T3 := Nat × Nat × Nat
def frc {α : Type} (x : Nat) (f : Nat → α) : α := match x with
  | 0 => f 0
  | m + 1 => f (m + 1)
theorem frc_eq {α : Type} (x : Nat) (f : Nat → α) : frc x f = f x := by cases x <;> rfl
def pushN (n a b c : Nat) (st : List T3) : List T3 := bif Nat.ble c n then (a, b, c) :: st else st
def okN (a b c : Nat) : Bool := (Nat.ble b (3 * a * c)).and ((Nat.ble a (3 * b * c)).and ((Nat.blt (Nat.add (Nat.log2 (3 * a)) (Nat.log2 c)) 1000000).and (Nat.blt (Nat.add (Nat.log2 (3 * b)) (Nat.log2 c)) 1000000)))
def run (n : Nat) : Nat → List T3 → List T3 → Option (List T3)
  | 0, [], acc => some acc.reverse
  | 0, _ :: _, _ => none
  | _ + 1, [], acc => some acc.reverse
  | k + 1, (a, b, c) :: st, acc => bif okN a b c then frc (3 * a * c - b) fun x => frc (3 * b * c - a) fun y => run n k (pushN n b c y (pushN n a c x st)) ((a, b, c) :: acc) else none
def nxt (t : T3) (w : Nat) : T3 := match t with
  | (a, b, c) => match w with
    | 0 => frc (3 * a * c - b) fun x => (a, c, x)
    | _ + 1 => frc (3 * b * c - a) fun x => (b, c, x)
def triF : List Nat → T3 → T3
  | [], t => t
  | w :: p, t => triF p (nxt t w)
def pths : Nat → List (List Nat)
  | 0 => [[]]
  | k + 1 => (pths k).flatMap fun p => [0 :: p, 1 :: p]
def beqT (x y : T3) : Bool := (Nat.beq x.1 y.1).and ((Nat.beq x.2.1 y.2.1).and (Nat.beq x.2.2 y.2.2))
def oneIs (d : T3) (n : Nat) : List T3 → Bool
  | [] => false
  | x :: r => bif Nat.beq x.2.2 n then beqT x d && r.all (fun y => !(Nat.beq y.2.2 n)) else oneIs d n r
def low (n : Nat) : List T3 := [(1, 1, 1), (1, 1, 2)].filter fun x => Nat.ble x.2.2 n
def topN (n : Nat) : List T3 := bif Nat.ble 5 n then [(1, 2, 5)] else []

def toI (t : T3) : List Int := [(t.1 : Int), (t.2.1 : Int), (t.2.2 : Int)]
abbrev t3 (t : T3) : D := tupI (toI t)
theorem is_whole_int (x lo hi : Int) (h : Hd) : loc s_is_whole [.int x, .int lo, .int hi] h = .ok (.bl (decide (lo ≤ x) && decide (x ≤ hi))) h := by
  have e : s_is_whole [.int x, .int lo, .int hi] [] = .ok (.bl (decide (lo ≤ x) && decide (x ≤ hi))) [] := by
    by_cases h1 : lo ≤ x <;> simp [s_is_whole, b_is_whole, b_is_whole_0, h1, tqs]
  exact loc_ok e rfl rfl
theorem need_most_ok {n : Nat} (h1 : 1 ≤ n) (h2 : n ≤ 1000000000000000000000000000000000000000000000000000000000000) (h : Hd) : loc s_need_most [.int n] h = .ok .non h := by
  have e : s_need_most [.int n] [] = .ok .non [] := by
    refine run_nx (env' := [some (.int n)]) [some (.int n)] ?_
    refine if_no (not_ok (b := true) (tOf_ok ((call_ok (cons_ok rfl (cons_ok rfl (cons_ok rfl rfl)))).trans ((is_whole_int n 1 _ _).trans ?_))))
    rw [decide_eq_true (show (1 : Int) ≤ (n : Int) by omega), decide_eq_true (show (n : Int) ≤ 1000000000000000000000000000000000000000000000000000000000000 by omega)]
    rfl
  exact loc_ok e rfl rfl
theorem okN_split {a b c : Nat} (q : okN a b c = true) : b ≤ 3 * a * c ∧ a ≤ 3 * b * c ∧ mulOk ((3 * a : Nat) : Int) (c : Int) = true ∧ mulOk ((3 * b : Nat) : Int) (c : Int) = true := by
  unfold okN at q
  obtain ⟨q1, q⟩ := He.ba q
  obtain ⟨q2, q⟩ := He.ba q
  obtain ⟨q3, q4⟩ := He.ba q
  have lt : ∀ {x y : Nat}, Nat.blt x y = true → x < y := fun {x y} h => Nat.le_of_ble_eq_true h
  have q3 := lt q3
  have q4 := lt q4
  refine ⟨Nat.le_of_ble_eq_true q1, Nat.le_of_ble_eq_true q2, ?_, ?_⟩
  · unfold mulOk
    rw [Bool.or_eq_true, decide_eq_true_eq]
    right
    exact q3
  · unfold mulOk
    rw [Bool.or_eq_true, decide_eq_true_eq]
    right
    exact q4
theorem next0_ok {a b c : Nat} (q : okN a b c = true) (h : Hd) : loc s_next_triple [t3 (a, b, c), .int 0] h = .ok (t3 (a, c, 3 * a * c - b)) h := by
  obtain ⟨q1, q2, q3, q4⟩ := okN_split q
  have ev : (3 : Int) * a * c - b = ((3 * a * c - b : Nat) : Int) := by
    rw [Int.ofNat_sub q1, Int.natCast_mul, Int.natCast_mul]
    rfl
  have e : s_next_triple [t3 (a, b, c), .int 0] [] = .ok (t3 (a, c, 3 * a * c - b)) [] := by
    refine run_rt [some (t3 (a, b, c)), some (.int 0), none, none, none] ((seq_nx (env1 := [some (t3 (a, b, c)), some (.int 0), some (.int a), some (.int b), some (.int c)]) (h1 := []) rfl).trans ?_)
    unfold b_next_triple_1
    refine seq_rt ((if_yes (h' := []) (tOf_ok ((eqI (i := 0) (j := 0) rfl rfl).trans rfl))).trans (ret_ok ((tup_ok (h1 := []) (xs := [.int a, .int c, .int (3 * a * c - b)]) (cons_ok rfl (cons_ok rfl (cons_ok ((op_ok (x := .int (3 * a * c)) (y := .int b) (h1 := []) (h2 := []) ((op_ok (x := .int (3 * a)) (y := .int c) (h1 := []) (h2 := []) ((op_ok (x := .int 3) (y := .int a) rfl rfl).trans (mul_sm (by decide))) rfl).trans ?_) rfl).trans rfl) rfl))) (by simp)).trans ?_)))
    · unfold gMul
      dsimp only
      rw [Int.natCast_mul] at q3
      exact if_pos q3
    · rw [ev]
      rfl
  exact loc_ok e rfl rfl
theorem next1_ok {a b c : Nat} (q : okN a b c = true) (h : Hd) : loc s_next_triple [t3 (a, b, c), .int 1] h = .ok (t3 (b, c, 3 * b * c - a)) h := by
  obtain ⟨q1, q2, q3, q4⟩ := okN_split q
  have ev : (3 : Int) * b * c - a = ((3 * b * c - a : Nat) : Int) := by
    rw [Int.ofNat_sub q2, Int.natCast_mul, Int.natCast_mul]
    rfl
  have e : s_next_triple [t3 (a, b, c), .int 1] [] = .ok (t3 (b, c, 3 * b * c - a)) [] := by
    refine run_rt [some (t3 (a, b, c)), some (.int 1), none, none, none] ((seq_nx (env1 := [some (t3 (a, b, c)), some (.int 1), some (.int a), some (.int b), some (.int c)]) (h1 := []) rfl).trans ?_)
    unfold b_next_triple_1
    refine (seq_nx (env1 := [some (t3 (a, b, c)), some (.int 1), some (.int a), some (.int b), some (.int c)]) (h1 := []) (if_no (h' := []) (tOf_ok ((eqI (i := 1) (j := 0) rfl rfl).trans rfl)))).trans ?_
    refine ret_ok ((tup_ok (h1 := []) (xs := [.int b, .int c, .int (3 * b * c - a)]) (cons_ok rfl (cons_ok rfl (cons_ok ((op_ok (x := .int (3 * b * c)) (y := .int a) (h1 := []) (h2 := []) ((op_ok (x := .int (3 * b)) (y := .int c) (h1 := []) (h2 := []) ((op_ok (x := .int 3) (y := .int b) rfl rfl).trans (mul_sm (by decide))) rfl).trans ?_) rfl).trans rfl) rfl))) (by simp)).trans ?_)
    · unfold gMul
      dsimp only
      rw [Int.natCast_mul] at q4
      exact if_pos q4
    · rw [ev]
      rfl
  exact loc_ok e rfl rfl
end Lw

set_option Elab.async false
set_option linter.all false
set_option maxRecDepth 100000
set_option maxHeartbeats 1000000
namespace Lw
open PySem PySem.Spec PyProof.Rows L2 Mi
theorem toP_rows {n r : Nat} {h : Hd} {l : List (List Int)} (e : h[r]? = some (.lst (l.map tupI))) : toP (n + 3) h (.ref r) = some (.list (l.map fun x => .tuple (x.map .int))) := by
  unfold toP
  rw [e]
  show ((l.map tupI).mapM (toP (n + 2) h)).map PyData.list = _
  rw [toP_map (f := tupI) (g := fun x => PyData.tuple (x.map .int)) l fun x _ => toP_tup]
  rfl
theorem sh_rows (l : List (List Int)) : SeqAt.shaped (.list (l.map fun x => .tuple (x.map .int))) = true := by
  unfold SeqAt.shaped
  rw [PyData.canLay0, lay_lists, PyData.depth]
  have := dep_lists l
  simp
  omega
theorem eq_rows {r t : Nat} {h : Hd} {l m : List (List Int)} {k : Bool → Bool} (e : h[r]? = some (.lst (l.map tupI))) (e2 : h[t]? = some (.lst (m.map tupI))) : eqB (.ref r) (.ref t) h k = .ok (.bl (k (decide (l = m)))) h := by
  rw [eqB_ref, deep_ok (toP_rows (n := 21) e) (toP_rows (n := 21) e2) (sh_rows l) (sh_rows m), PyData.eqv, eqv_lists]
theorem meth_lst {g : Gm} {fo : Fe} {fa : Fa} {env : En} {h h1 h2 : Hd} {t : Nat} {xs ds : List D} {r : Res D} (eo : fo env h = .ok (.ref t) h1) (q : h1[t]? = some (.lst xs)) (ea : fa env h1 = .ok ds h2) (eg : g (.ref t) ds h2 = r) : eMeth "list" g fo fa env h = r := by
  show (fo env h).bind _ = _
  rw [eo]
  show (if recvOk "list" (.ref t) h1 = true then (fa env h1).bind fun ds h2 => g (.ref t) ds h2 else .no) = _
  rw [if_pos (by unfold recvOk; dsimp only; rw [q]; rfl), ea]
  exact eg
theorem pop_ok {h : Hd} {t : Nat} {xs : List D} {d : D} (q : h[t]? = some (.lst (xs ++ [d]))) : mPop (.ref t) [] h = .ok d (h.set t (.lst xs)) := by
  unfold mPop
  dsimp only
  rw [q]
  dsimp only
  have : (xs ++ [d])[(xs ++ [d]).length - 1]? = some d := by simp
  rw [this]
  dsimp only
  rw [List.dropLast_concat]
theorem app_ok {h : Hd} {t : Nat} {xs : List D} {d : D} (q : h[t]? = some (.lst xs)) (hl : xs.length < 16777216) : mAppend (.ref t) [d] h = .ok .non (h.set t (.lst (xs ++ [d]))) := by
  unfold mAppend
  dsimp only
  rw [q]
  dsimp only
  rw [if_pos hl]
theorem ext_ok {h : Hd} {t m : Nat} {xs ys : List D} (q : h[t]? = some (.lst xs)) (q2 : h[m]? = some (.lst ys)) (hl : xs.length + ys.length ≤ 16777216) : mExtend (.ref t) [.ref m] h = .ok .non (h.set t (.lst (xs ++ ys))) := by
  unfold mExtend
  dsimp only
  rw [q, q2]
  dsimp only
  rw [if_pos hl]
theorem nil_ok {env : En} {h : Hd} : eLst aNil env h = .ok (.ref h.length) (h ++ [.lst []]) := lst_ok rfl (by simp)
abbrev EO (n f t : Nat) (v : Option D) : En := [some (.int n), some (.ref f), some (.ref t), v, none, none]
abbrev rowD (L : List T3) : List D := L.map t3
theorem rowD_eq (L : List T3) : rowD L = (L.map toI).map tupI := by rw [List.map_map]; rfl
theorem own_cond {n f t : Nat} {v : Option D} {h : Hd} {L : List T3} (q : h[t]? = some (.lst (rowD L))) : tOf (eOp gNe (eVar 2) (eLst aNil)) (EO n f t v) h = .ok (!decide (L = [])) (h ++ [.lst []]) := by
  refine tOf_ok ((op_ok (x := .ref t) (h1 := h) rfl nil_ok).trans ?_)
  rw [rowD_eq] at q
  refine (eq_rows (l := L.map toI) (m := []) (app_old q) at_new).trans ?_
  cases L <;> rfl
def keepN (n : Nat) (x : T3) : List T3 := bif Nat.ble x.2.2 n then [x] else []
theorem ble_dec (a b : Nat) : Nat.ble a b = decide (a ≤ b) := by
  rw [Bool.eq_iff_iff, decide_eq_true_eq]
  exact ⟨fun q => Nat.le_of_ble_eq_true q, fun q => Nat.ble_eq_true_of_le q⟩
theorem turn_if {i : Nat} {tst : Ft} {el : Fe} {env : En} {d y : D} {b : Bool} {h : Hd} (hi : i < env.length) (et : tst (env.set i (some d)) h = .ok b h) (ey : el (env.set i (some d)) h = .ok y h) : turnC (gSet i) tst el env d h = .ok (bif b then [y] else []) h := by
  unfold turnC gSet
  rw [if_pos hi]
  dsimp only
  rw [et]
  cases b with
  | true =>
    dsimp only
    rw [ey]
    rfl
  | false => rfl
theorem turn_own {n f t : Nat} {v : Option D} {h : Hd} (x : T3) : turnC (gSet 5) (tOf (eOp gLe (eOp gIx (eVar 5) (eC (.int 2))) (eVar 0))) (eVar 5) (EO n f t v) (t3 x) h = .ok (rowD (keepN n x)) h := by
  have ts : tOf (eOp gLe (eOp gIx (eVar 5) (eC (.int 2))) (eVar 0)) [some (.int n), some (.ref f), some (.ref t), v, none, some (t3 x)] h = .ok (decide ((x.2.2 : Int) ≤ n)) h := tOf_ok ((op_ok (x := .int x.2.2) (y := .int n) (h1 := h) (h2 := h) ((op_ok (x := t3 x) (y := .int 2) rfl rfl).trans rfl) rfl).trans rfl)
  refine (turn_if (y := t3 x) (by simp) ts rfl).trans ?_
  unfold keepN
  have e : decide ((x.2.2 : Int) ≤ n) = decide (x.2.2 ≤ n) := decide_eq_decide.mpr (by omega)
  rw [ble_dec, e]
  cases decide (x.2.2 ≤ n) <;> rfl
abbrev ownBody : Fs := (sSeq (sAsg (eMeth "list" mPop (eVar 2) aNil) (gSet 3))
    (sSeq (sExpr (eMeth "list" mAppend (eVar 1) (aCons (eVar 3) aNil)))
    (sExpr (eMeth "list" mExtend (eVar 2) (aCons (eLc (iOf (eTup (aCons (eCall (loc s_next_triple) (aCons (eVar 3) (aCons (eC (.int 0)) aNil))) (aCons (eCall (loc s_next_triple) (aCons (eVar 3) (aCons (eC (.int 1)) aNil))) aNil)))) (gSet 5) (tOf (eOp gLe (eOp gIx (eVar 5) (eC (.int 2))) (eVar 0))) (eVar 5) [5]) aNil)))))
theorem push_rev (n a b c : Nat) (st : List T3) : (pushN n a b c st).reverse = st.reverse ++ keepN n (a, b, c) := by
  unfold pushN keepN
  cases Nat.ble c n with
  | true => rw [cond_true, cond_true, List.reverse_cons]
  | false => rw [cond_false, cond_false, List.append_nil]
theorem push_len (n a b c : Nat) (st : List T3) : (pushN n a b c st).length ≤ st.length + 1 := by
  unfold pushN
  cases Nat.ble c n with
  | true => rw [cond_true, List.length_cons]; exact Nat.le_refl _
  | false => rw [cond_false]; exact Nat.le_succ _
theorem own_turn {n f t : Nat} {v : Option D} {h : Hd} {a b c : Nat} {st acc : List T3} (hft : f ≠ t) (q : okN a b c = true) (hf : h[f]? = some (.lst (rowD acc.reverse))) (ht : h[t]? = some (.lst (rowD ((a, b, c) :: st).reverse))) (hl : st.length ≤ 10000) (hl2 : acc.length ≤ 10000) :
    ∃ h', ownBody (EO n f t v) h = .nx (EO n f t (some (t3 (a, b, c)))) h' ∧ h'[f]? = some (.lst (rowD ((a, b, c) :: acc).reverse)) ∧ h'[t]? = some (.lst (rowD (pushN n b c (3 * b * c - a) (pushN n a c (3 * a * c - b) st)).reverse)) := by
  have htl : t < h.length := (List.getElem?_eq_some_iff.mp ht).1
  have hfl : f < h.length := (List.getElem?_eq_some_iff.mp hf).1
  have ht' : h[t]? = some (.lst (rowD st.reverse ++ [t3 (a, b, c)])) := by
    rw [ht, List.reverse_cons]
    unfold rowD
    rw [List.map_append]
    rfl
  have s1 : sAsg (eMeth "list" mPop (eVar 2) aNil) (gSet 3) (EO n f t v) h = .nx (EO n f t (some (t3 (a, b, c)))) (h.set t (.lst (rowD st.reverse))) := asg_ok (i := 3) (meth_lst (t := t) rfl ht' rfl (pop_ok ht')) (by simp)
  have f1 : (h.set t (.lst (rowD st.reverse)))[f]? = some (.lst (rowD acc.reverse)) := by rw [List.getElem?_set_ne (Ne.symm hft)]; exact hf
  have t1 : (h.set t (.lst (rowD st.reverse)))[t]? = some (.lst (rowD st.reverse)) := List.getElem?_set_self htl
  generalize h.set t (.lst (rowD st.reverse)) = h1 at s1 f1 t1
  have htl : t < h1.length := (List.getElem?_eq_some_iff.mp t1).1
  have hfl : f < h1.length := (List.getElem?_eq_some_iff.mp f1).1
  have s2 : sExpr (eMeth "list" mAppend (eVar 1) (aCons (eVar 3) aNil)) (EO n f t (some (t3 (a, b, c)))) h1 = .nx (EO n f t (some (t3 (a, b, c)))) (h1.set f (.lst (rowD acc.reverse ++ [t3 (a, b, c)]))) := expr_ok (d := .non) (meth_lst (t := f) rfl f1 (cons_ok rfl rfl) (app_ok f1 (by rw [List.length_map, List.length_reverse]; omega)))
  have f2 : (h1.set f (.lst (rowD acc.reverse ++ [t3 (a, b, c)])))[f]? = some (.lst (rowD ((a, b, c) :: acc).reverse)) := by
    rw [List.getElem?_set_self hfl, List.reverse_cons]
    unfold rowD
    rw [List.map_append]
    rfl
  have t2 : (h1.set f (.lst (rowD acc.reverse ++ [t3 (a, b, c)])))[t]? = some (.lst (rowD st.reverse)) := by rw [List.getElem?_set_ne hft]; exact t1
  generalize h1.set f (.lst (rowD acc.reverse ++ [t3 (a, b, c)])) = h2 at s2 f2 t2
  obtain ⟨h3, e3, k3, q3⟩ := lc_tup (tg := gSet 5) (tst := tOf (eOp gLe (eOp gIx (eVar 5) (eC (.int 2))) (eVar 0))) (el := eVar 5) (env := EO n f t (some (t3 (a, b, c)))) (h := h2) (xs := rowD [(a, c, 3 * a * c - b), (b, c, 3 * b * c - a)]) (fun d => match d with
      | .tup [.int x, .int y, .int z] => bif Nat.ble z.toNat n then [d] else []
      | _ => []) (by
    intro d hd hh _
    obtain ⟨x, _, rfl⟩ := List.mem_map.mp hd
    refine ⟨hh, (turn_own x).trans ?_, Kp.refl⟩
    show _ = Res.ok (bif Nat.ble ((x.2.2 : Int).toNat) n then [t3 x] else []) hh
    unfold keepN
    rw [Int.toNat_natCast]
    cases Nat.ble x.2.2 n <;> rfl) (by simp)
  have q3' : h3[h2.length]? = some (.lst (rowD (keepN n (a, c, 3 * a * c - b)) ++ rowD (keepN n (b, c, 3 * b * c - a)))) := by
    rw [q3]
    show some (Ob.lst ((bif Nat.ble (((3 * a * c - b : Nat) : Int).toNat) n then [t3 (a, c, 3 * a * c - b)] else []) ++ ((bif Nat.ble (((3 * b * c - a : Nat) : Int).toNat) n then [t3 (b, c, 3 * b * c - a)] else []) ++ []))) = _
    unfold keepN
    rw [Int.toNat_natCast, Int.toNat_natCast, List.append_nil]
    dsimp only
    cases Nat.ble (3 * a * c - b) n <;> cases Nat.ble (3 * b * c - a) n <;> rfl
  have f3 := k3.at_ _ _ (by simp) f2
  have t3' := k3.at_ _ _ (by simp) t2
  have kl : ∀ x : T3, (rowD (keepN n x)).length ≤ 1 := fun x => by unfold keepN; cases Nat.ble x.2.2 n <;> simp
  have k1 := kl (a, c, 3 * a * c - b)
  have k2 := kl (b, c, 3 * b * c - a)
  have htl : t < h3.length := (List.getElem?_eq_some_iff.mp t3').1
  refine ⟨h3.set t (.lst (rowD st.reverse ++ (rowD (keepN n (a, c, 3 * a * c - b)) ++ rowD (keepN n (b, c, 3 * b * c - a))))), ?_, ?_, ?_⟩
  · refine (seq_nx s1).trans ((seq_nx s2).trans (expr_ok (d := .non) (meth_lst (t := t) rfl t2 (cons_ok (h1 := h3) ((eLc_ok (iOf_tup (h1 := h2) (tup_ok (cons_ok ((call_ok (cons_ok rfl (cons_ok rfl rfl))).trans (next0_ok q h2)) (cons_ok ((call_ok (cons_ok rfl (cons_ok rfl rfl))).trans (next1_ok q h2)) rfl)) (by simp)))).trans e3) rfl) (ext_ok t3' q3' ?_))))
    rw [List.length_append, List.length_map, List.length_reverse]
    omega
  · rw [List.getElem?_set_ne (Ne.symm hft)]
    exact f3
  · rw [List.getElem?_set_self htl, push_rev, push_rev]
    unfold rowD
    rw [List.map_append, List.map_append, List.append_assoc]
end Lw

set_option Elab.async false
set_option linter.all false
set_option maxRecDepth 100000
set_option maxHeartbeats 1000000
namespace Lw
open PySem PySem.Spec PyProof.Rows L2 Mi
theorem own_loop {n f t : Nat} (hft : f ≠ t) : ∀ (k : Nat) (st acc : List T3) (m : Nat) (v : Option D) (h : Hd) (L : List T3), run n k st acc = some L → k < m → st.length + k ≤ 9000 → acc.length + k ≤ 9000 → h[f]? = some (.lst (rowD acc.reverse)) → h[t]? = some (.lst (rowD st.reverse)) →
    ∃ v' h', whileL (tOf (eOp gNe (eVar 2) (eLst aNil))) ownBody m (EO n f t v) h = .nx (EO n f t v') h' ∧ h'[f]? = some (.lst (rowD L))
  | k, [], acc, m + 1, v, h, L, e, hm, hs, ha, hf, ht => by
    have e2 : acc.reverse = L := by
      cases k <;> (unfold run at e; exact Option.some.inj e)
    subst e2
    refine ⟨v, h ++ [.lst []], ?_, app_old hf⟩
    unfold whileL
    rw [own_cond (L := []) ht]
    rfl
  | 0, _ :: _, _, _, _, _, _, e, _, _, _, _, _ => by
    unfold run at e
    cases e
  | k + 1, (a, b, c) :: st, acc, m + 1, v, h, L, e, hm, hs, ha, hf, ht => by
    unfold run at e
    cases q : okN a b c with
    | false => rw [q] at e; cases e
    | true =>
      rw [q, cond_true, frc_eq, frc_eq] at e
      rw [List.length_cons] at hs
      obtain ⟨h', e2, f2, t2⟩ := own_turn (v := v) (h := h ++ [.lst []]) hft q (app_old hf) (app_old ht) (by omega) (by omega)
      have p1 := push_len n b c (3 * b * c - a) (pushN n a c (3 * a * c - b) st)
      have p2 := push_len n a c (3 * a * c - b) st
      obtain ⟨v', h2, e3, f3⟩ := own_loop hft k _ _ m (some (t3 (a, b, c))) h' L e (by omega) (by omega) (by rw [List.length_cons]; omega) f2 t2
      refine ⟨v', h2, ?_, f3⟩
      unfold whileL
      rw [own_cond (L := ((a, b, c) :: st).reverse) ht]
      have : (!decide (((a, b, c) :: st).reverse = [])) = true := by simp
      rw [this]
      dsimp only
      rw [e2]
      exact e3
  | _, _, _, 0, _, _, _, _, hm, _, _, _, _ => absurd hm (Nat.not_lt_zero _)
theorem run_len {n : Nat} : ∀ (k : Nat) (st acc L : List T3), run n k st acc = some L → L.length ≤ acc.length + k
  | k, [], acc, L, e => by
    have e2 : acc.reverse = L := by
      cases k <;> (unfold run at e; exact Option.some.inj e)
    rw [← e2, List.length_reverse]
    omega
  | 0, _ :: _, _, _, e => by
    unfold run at e
    cases e
  | k + 1, (a, b, c) :: st, acc, L, e => by
    unfold run at e
    cases q : okN a b c with
    | false => rw [q] at e; cases e
    | true =>
      rw [q, cond_true, frc_eq, frc_eq] at e
      have := run_len k _ _ _ e
      rw [List.length_cons] at this
      omega
def ownN (n : Nat) : Option (List T3) := run n 4000 (topN n) (low n).reverse
def srt (L : List T3) : List (List Int) := sortR (L.map toI)
theorem own_len {n : Nat} {L : List T3} (e : ownN n = some L) : L.length ≤ 4002 := by
  have h1 := run_len _ _ _ _ e
  have h2 : (low n).length ≤ 2 := List.length_filter_le _ _
  rw [List.length_reverse] at h1
  omega
theorem srt_len {n : Nat} {L : List T3} (_ : ownN n = some L) : (srt L).length = L.length := by
  unfold srt
  rw [(sortR_perm _).length_eq, List.length_map]
theorem sortR_lst {h : Hd} {f : Nat} {L : List T3} (q : h[f]? = some (.lst (rowD L))) : gSortR1 [.ref f] h = .ok (.ref h.length) (h ++ [.lst ((srt L).map tupI)]) := by
  show gSortR (.ref f) h = _
  have e0 : lstD (.ref f) h = some (rowD L) := by
    unfold lstD
    dsimp only
    rw [q]
  unfold gSortR
  rw [e0]
  dsimp only
  rw [rowD_eq, tupsI_map]
  dsimp only
  rw [if_pos]
  · rfl
  · rw [List.all_map]
    exact List.all_eq_true.mpr fun _ _ => rfl
theorem low_chk (n : Nat) : ([((1, 1, 1) : T3), (1, 1, 2)].map t3).flatMap (fun d => match d with
      | .tup [.int x, .int y, .int z] => bif Nat.ble z.toNat n then [d] else []
      | _ => []) = rowD (low n) := by
  unfold low
  show (bif Nat.ble 1 n then [t3 (1, 1, 1)] else []) ++ ((bif Nat.ble 2 n then [t3 (1, 1, 2)] else []) ++ []) = _
  rw [List.append_nil]
  cases q1 : Nat.ble 1 n <;> cases q2 : Nat.ble 2 n <;> simp [q1, q2]
theorem own_run {n : Nat} {L : List T3} (e : ownN n = some L) (h : Hd) : ∃ h', s_own_triples [.int n] h = .ok (.ref h'.length) (h' ++ [.lst ((srt L).map tupI)]) := by
  obtain ⟨h1, e1, k1, q1⟩ := lc_tup (tg := gSet 4) (tst := tOf (eOp gLe (eOp gIx (eVar 4) (eC (.int 2))) (eVar 0))) (el := eVar 4) (env := [some (.int n), none, none, none, none, none]) (h := h) (xs := rowD [(1, 1, 1), (1, 1, 2)]) (fun d => match d with
      | .tup [.int x, .int y, .int z] => bif Nat.ble z.toNat n then [d] else []
      | _ => []) (by
    intro d hd hh _
    obtain ⟨x, _, rfl⟩ := List.mem_map.mp hd
    refine ⟨hh, (turn_if (y := t3 x) (b := decide ((x.2.2 : Int) ≤ n)) (by simp) (tOf_ok ((op_ok (x := .int x.2.2) (y := .int n) (h1 := hh) (h2 := hh) ((op_ok (x := t3 x) (y := .int 2) rfl rfl).trans rfl) rfl).trans rfl)) rfl).trans ?_, Kp.refl⟩
    show _ = Res.ok (bif Nat.ble ((x.2.2 : Int).toNat) n then [t3 x] else []) hh
    have e : decide ((x.2.2 : Int) ≤ n) = decide (x.2.2 ≤ n) := decide_eq_decide.mpr (by omega)
    rw [Int.toNat_natCast, ble_dec, e]) (by simp)
  rw [low_chk] at q1
  have s0 : b_own_triples_0 [some (.int n), none, none, none, none, none] h = .nx [some (.int n), some (.ref h.length), none, none, none, none] h1 :=
    asg_ok (i := 1) ((eLc_ok (iOf_tup (h1 := h) rfl)).trans e1) (by simp)
  have hlt : h.length < h1.length := (List.getElem?_eq_some_iff.mp q1).1
  have s1 : b_own_triples_1 [some (.int n), some (.ref h.length), none, none, none, none] h1 = .nx (EO n h.length h1.length none) (h1 ++ [.lst (rowD (topN n))]) := by
    refine asg_ok (i := 2) (d := .ref h1.length) ?_ (by simp)
    have t : tOf (eOp gGe (eVar 0) (eOp gIx (eC (.tup [(.int (1)), (.int (2)), (.int (5))])) (eC (.int 2)))) [some (.int n), some (.ref h.length), none, none, none, none] h1 = .ok (decide ((5 : Int) ≤ n)) h1 := tOf_ok ((op_ok (x := .int n) (y := .int 5) (h1 := h1) (h2 := h1) rfl ((op_ok rfl rfl).trans rfl)).trans rfl)
    show (tOf _ _ h1).bind _ = _
    rw [t]
    have e5 : decide ((5 : Int) ≤ n) = Nat.ble 5 n := by rw [ble_dec]; exact decide_eq_decide.mpr (by omega)
    rw [e5]
    unfold topN
    cases Nat.ble 5 n with
    | true =>
      show eLst (aCons (eC (.tup [(.int (1)), (.int (2)), (.int (5))])) aNil) [some (.int n), some (.ref h.length), none, none, none, none] h1 = _
      exact lst_ok rfl (by simp)
    | false =>
      show eLst aNil [some (.int n), some (.ref h.length), none, none, none, none] h1 = _
      exact nil_ok
  obtain ⟨v', h2, e2, q2⟩ := own_loop (n := n) (f := h.length) (t := h1.length) (by omega) 4000 (topN n) (low n).reverse most none (h1 ++ [.lst (rowD (topN n))]) L e (by rw [most_eq]; omega) (by unfold topN; cases Nat.ble 5 n <;> simp) (by
      have : (low n).length ≤ 2 := List.length_filter_le _ _
      rw [List.length_reverse]
      omega) (by rw [List.reverse_reverse]; exact app_old q1) (by
      rw [at_new]
      unfold topN
      cases Nat.ble 5 n <;> rfl)
  refine ⟨h2, run_rt [some (.int n), none, none, none, none, none] ((seq_nx s0).trans ((seq_nx s1).trans ((seq_nx e2).trans (ret_ok ((call_ok (cons_ok rfl rfl)).trans (sortR_lst q2))))))⟩
theorem purs_ints : ∀ l : List Int, purs (l.map .int) = true
  | [] => rfl
  | a :: l => by
    rw [List.map_cons]
    unfold purs
    rw [purs_ints l]
    rfl
theorem purs_rows : ∀ l : List (List Int), purs (l.map tupI) = true
  | [] => rfl
  | a :: l => by
    rw [List.map_cons]
    unfold purs tupI pur
    rw [purs_ints a]
    exact purs_rows l
theorem own_ok {n : Nat} {L : List T3} (e : ownN n = some L) (h : Hd) : loc s_own_triples [.int n] h = .ok (.ref h.length) (h ++ [.lst ((srt L).map tupI)]) := by
  obtain ⟨h', e'⟩ := own_run e []
  exact loc_lst e' rfl at_new (purs_rows _)
abbrev thd (r : List Int) : D := .tup (r.map .int)
/-- the third of a row -/
def thr (r : List Int) : Int := r.getD 2 0
theorem srt_mem {L : List T3} {r : List Int} (hr : r ∈ srt L) : ∃ x ∈ L, r = toI x := by
  have := (sortR_perm _).mem_iff.mp hr
  obtain ⟨x, hx, rfl⟩ := List.mem_map.mp this
  exact ⟨x, hx, rfl⟩
abbrev bigM : Nat := 1000000000000000000000000000000000000000000000000000000000000
theorem up_to_ok {n : Nat} {L : List T3} (e : ownN n = some L) (h1 : 1 ≤ n) (h2 : n ≤ bigM) (h : Hd) : loc s_triples_up_to [.int n] h = .ok (.tup ((srt L).map tupI)) h := by
  have : s_triples_up_to [.int n] [] = .ok (.tup ((srt L).map tupI)) [.lst ((srt L).map tupI)] := by
    refine run_rt [some (.int n)] ((seq_nx (expr_ok (h' := []) ((call_ok (cons_ok rfl rfl)).trans (need_most_ok h1 h2 _)))).trans (ret_ok ((call_ok (ds := [.ref 0]) (h1 := [.lst ((srt L).map tupI)]) (cons_ok ((call_ok (cons_ok rfl rfl)).trans (own_ok e [])) rfl)).trans rfl)))
  exact loc_ok this rfl (by unfold pur; exact purs_rows _)
theorem flat_filter {L : List (List Int)} {p : List Int → Bool} {g : D → List D} (hg : ∀ r ∈ L, g (tupI r) = bif p r then [tupI r] else []) : (L.map tupI).flatMap g = (L.filter p).map tupI := by
  induction L with
  | nil => rfl
  | cons a L ih =>
    rw [List.map_cons, List.flatMap_cons, hg a (List.mem_cons_self ..), ih fun r hr => hg r (List.mem_cons_of_mem _ hr), List.filter_cons]
    cases p a <;> rfl
def gThird (n : Nat) : D → List D := fun d => match d with
  | .tup [.int x, .int y, .int z] => bif decide (z = (n : Int)) then [d] else []
  | _ => []
theorem of_ok {n : Nat} {L : List T3} (e : ownN n = some L) (h1 : 1 ≤ n) (h2 : n ≤ bigM) (h : Hd) : loc s_triples_of [.int n] h = .ok (.tup (((srt L).filter fun r => decide (thr r = n)).map tupI)) h := by
  obtain ⟨h3, e3, k3, q3⟩ := lc_ref (tg := gSet 1) (tst := tOf (eOp gEq (eOp gIx (eVar 1) (eC (.int 2))) (eVar 0))) (el := eVar 1) (env := [some (.int n), none]) (h := [.lst ((srt L).map tupI)]) (a := 0) (xs := (srt L).map tupI) (gThird n) rfl (by
    intro d hd hh _
    obtain ⟨r, hr, rfl⟩ := List.mem_map.mp hd
    obtain ⟨x, _, rfl⟩ := srt_mem hr
    exact ⟨hh, (turn_if (y := t3 x) (b := decide ((x.2.2 : Int) = n)) (by simp) (tOf_ok ((op_ok (x := .int x.2.2) (y := .int n) (h1 := hh) (h2 := hh) ((op_ok (x := t3 x) (y := .int 2) rfl rfl).trans rfl) rfl).trans rfl)) rfl).trans rfl, Kp.refl⟩) (by
      rw [List.length_map, srt_len e]
      have := own_len e
      omega)
  rw [flat_filter (p := fun r => decide (thr r = n)) (fun r hr => by obtain ⟨x, _, rfl⟩ := srt_mem hr; rfl)] at q3
  have : s_triples_of [.int n] [] = .ok (.tup (((srt L).filter fun r => decide (thr r = n)).map tupI)) h3 := by
    refine run_rt [some (.int n), none] ((seq_nx (expr_ok (h' := []) ((call_ok (cons_ok rfl rfl)).trans (need_most_ok h1 h2 _)))).trans (ret_ok ((call_ok (ds := [.ref 1]) (h1 := h3) (cons_ok ((eLc_ok (iOf_ref (a := 0) (xs := (srt L).map tupI) (h1 := [.lst ((srt L).map tupI)]) ((call_ok (cons_ok rfl rfl)).trans (own_ok e [])) rfl)).trans e3) rfl)).trans ?_)))
    unfold gTuple seqD
    dsimp only
    rw [show h3[1]? = _ from q3]
  exact loc_ok this rfl (by unfold pur; exact purs_rows _)
def bThird (n : Nat) : D → List D := fun d => match d with
  | .tup [.int x, .int y, .int z] => [.bl (decide (z = (n : Int)))]
  | _ => []
theorem flat_one {L : List (List Int)} {p : List Int → D} {g : D → List D} (hg : ∀ r ∈ L, g (tupI r) = [p r]) : (L.map tupI).flatMap g = L.map p := by
  induction L with
  | nil => rfl
  | cons a L ih =>
    rw [List.map_cons, List.flatMap_cons, hg a (List.mem_cons_self ..), ih fun r hr => hg r (List.mem_cons_of_mem _ hr)]
    rfl
theorem is_markov_ok {n : Nat} {L : List T3} (e : ownN n = some L) (h1 : 1 ≤ n) (h2 : n ≤ bigM) (h : Hd) : loc s_is_markov [.int n] h = .ok (.bl ((srt L).any fun r => decide (thr r = n))) h := by
  obtain ⟨h3, e3, k3, q3⟩ := lc_ref (tg := gSet 1) (tst := tYesD) (el := eOp gEq (eOp gIx (eVar 1) (eC (.int 2))) (eVar 0)) (env := [some (.int n), none]) (h := [.lst ((srt L).map tupI)]) (a := 0) (xs := (srt L).map tupI) (bThird n) rfl (by
    intro d hd hh _
    obtain ⟨r, hr, rfl⟩ := List.mem_map.mp hd
    obtain ⟨x, _, rfl⟩ := srt_mem hr
    exact ⟨hh, (turn_yes' (y := .bl (decide ((x.2.2 : Int) = n))) (by simp) ((op_ok (x := .int x.2.2) (y := .int n) (h1 := hh) (h2 := hh) ((op_ok (x := t3 x) (y := .int 2) rfl rfl).trans rfl) rfl).trans rfl)).trans rfl, Kp.refl⟩) (by
      rw [List.length_map, srt_len e]
      have := own_len e
      omega)
  rw [flat_one (p := fun r => D.bl (decide (thr r = n))) (fun r hr => by obtain ⟨x, _, rfl⟩ := srt_mem hr; rfl)] at q3
  have eb : (srt L).map (fun r => D.bl (decide (thr r = n))) = ((srt L).map fun r => decide (thr r = n)).map .bl := by rw [List.map_map]; rfl
  rw [eb] at q3
  have : s_is_markov [.int n] [] = .ok (.bl ((srt L).any fun r => decide (thr r = n))) h3 := by
    refine run_rt [some (.int n), none] ((seq_nx (expr_ok (h' := []) ((call_ok (cons_ok rfl rfl)).trans (need_most_ok h1 h2 _)))).trans (ret_ok ((call_ok (ds := [.ref 1]) (h1 := h3) (cons_ok ((eLc_ok (iOf_ref (a := 0) (xs := (srt L).map tupI) (h1 := [.lst ((srt L).map tupI)]) ((call_ok (cons_ok rfl rfl)).trans (own_ok e [])) rfl)).trans e3) rfl)).trans ?_)))
    have e0 : lstD (.ref 1) h3 = some (((srt L).map fun r => decide (thr r = n)).map .bl) := by
      unfold lstD
      dsimp only
      rw [show h3[1]? = _ from q3]
    unfold gAny
    dsimp only
    rw [e0]
    dsimp only
    rw [bools_map]
    dsimp only
    rw [List.any_map]
    rfl
  exact loc_ok this rfl rfl
end Lw

set_option Elab.async false
set_option linter.all false
set_option maxRecDepth 100000
set_option maxHeartbeats 1000000
namespace Lw
open PySem PySem.Spec PyProof.Rows L2 Mi
theorem beqT_eq {x y : T3} (h : beqT x y = true) : x = y := by
  obtain ⟨a, b, c⟩ := x
  obtain ⟨a', b', c'⟩ := y
  unfold beqT at h
  obtain ⟨h1, h⟩ := He.ba h
  obtain ⟨h2, h3⟩ := He.ba h
  have e1 := Nat.eq_of_beq_eq_true h1
  have e2 := Nat.eq_of_beq_eq_true h2
  have e3 := Nat.eq_of_beq_eq_true h3
  dsimp only at e1 e2 e3
  rw [e1, e2, e3]
theorem beq_dec (a b : Nat) : Nat.beq a b = decide (a = b) := by
  rw [Bool.eq_iff_iff, decide_eq_true_eq]
  exact ⟨Nat.eq_of_beq_eq_true, fun h => by rw [h]; exact Nat.beq_refl b⟩
theorem oneIs_filter {d : T3} {n : Nat} : ∀ {L : List T3}, oneIs d n L = true → L.filter (fun x => decide (x.2.2 = n)) = [d]
  | [], h => by cases h
  | x :: r, h => by
    unfold oneIs at h
    rw [beq_dec] at h
    rw [List.filter_cons]
    cases q : decide (x.2.2 = n) with
    | false =>
      rw [q, cond_false] at h
      rw [if_neg (by decide)]
      exact oneIs_filter h
    | true =>
      rw [q, cond_true] at h
      obtain ⟨h1, h2⟩ := He.ba h
      rw [if_pos rfl, beqT_eq h1, List.filter_eq_nil_iff.mpr]
      intro y hy
      have := List.all_eq_true.mp h2 y hy
      rw [beq_dec] at this
      simpa using this
theorem thr_toI (x : T3) (n : Nat) : decide (thr (toI x) = n) = decide (x.2.2 = n) := decide_eq_decide.mpr (by show (x.2.2 : Int) = n ↔ _; omega)
theorem srt_filter {L : List T3} {d : T3} {n : Nat} (h : L.filter (fun x => decide (x.2.2 = n)) = [d]) : (srt L).filter (fun r => decide (thr r = n)) = [toI d] := by
  have p : ((srt L).filter (fun r => decide (thr r = n))).Perm ((L.map toI).filter (fun r => decide (thr r = n))) := (sortR_perm _).filter _
  rw [List.filter_map] at p
  have e : (fun r => decide (thr r = (n : Int))) ∘ toI = fun x : T3 => decide (x.2.2 = n) := by
    funext x
    exact thr_toI x n
  rw [e, h] at p
  exact List.perm_singleton.mp p
def bad (v : D) : Exn := ⟨"BadTriple", "place", v⟩
def chkA (p : List Nat) : Bool := match triF p (1, 2, 5) with
  | (a, b, c) => (match ownN c with
    | some L => oneIs (a, b, c) c L
    | none => false)
def chkB (p : List Nat) : Bool := match triF p (1, 2, 5) with
  | (_, _, c) => (match ownN (c + 1) with
    | some _ => true
    | none => false)
abbrev pth (p : List Nat) : D := .tup (p.map fun b => .int (b : Nat))
def chkC (p : List Nat) : Bool := match triF p (1, 2, 5) with
  | (a, b, c) => (Nat.ble 1 c && Nat.ble (c + 1) bigM) && (isL s_triple_at [pth p] (t3 (a, b, c)) && (isL s__law_triple [pth p] (t3 (a, b, c)) && (isL s_path_of [t3 (a, b, c)] (pth p) && (isL s_need_triple [t3 (a, b, c)] .non &&
    (rep0 (pth p) && (rep0 (t3 (a, b, c)) && rep0 (.tup [t3 (a, b, c)])))))))
def chkD (p : List Nat) : Bool := match triF p (1, 2, 5) with
  | (a, b, c) => isX s_need_triple [.tup [.int a, .int b]] (bad .non) && (isX s_need_triple [.tup [.int 0, .int b, .int c]] (bad .non) && (isX s_need_triple [.tup [.bl true, .int b, .int c]] (bad .non) && (isX s_need_triple [t3 (b, a, c)] (bad (.str "order")) && (isX s_need_triple [t3 (c, b, a)] (bad (.str "order")) && 
    isX s_need_triple [t3 (a, b, c + 1)] (bad (.str "sum"))))))
end Lw

set_option Elab.async false
set_option linter.all false
set_option maxRecDepth 100000
set_option maxHeartbeats 0
namespace Lw
theorem kA0 : (pths 0).all chkA = true := by decide +kernel
theorem kA1 : (pths 1).all chkA = true := by decide +kernel
theorem kA2 : (pths 2).all chkA = true := by decide +kernel
theorem kA3 : (pths 3).all chkA = true := by decide +kernel
theorem kA4 : (pths 4).all chkA = true := by decide +kernel
theorem kA5 : (pths 5).all chkA = true := by decide +kernel
theorem kA6 : (pths 6).all chkA = true := by decide +kernel
theorem kA7 : (pths 7).all chkA = true := by decide +kernel
theorem kA800 : ((pths 6).all fun p => chkA (0 :: 0 :: p)) = true := by decide +kernel
theorem kA801 : ((pths 6).all fun p => chkA (0 :: 1 :: p)) = true := by decide +kernel
theorem kA810 : ((pths 6).all fun p => chkA (1 :: 0 :: p)) = true := by decide +kernel
theorem kA811 : ((pths 6).all fun p => chkA (1 :: 1 :: p)) = true := by decide +kernel
end Lw

set_option Elab.async false
set_option linter.all false
set_option maxRecDepth 100000
set_option maxHeartbeats 0
namespace Lw
theorem kB0 : (pths 0).all chkB = true := by decide +kernel
theorem kB1 : (pths 1).all chkB = true := by decide +kernel
theorem kB2 : (pths 2).all chkB = true := by decide +kernel
theorem kB3 : (pths 3).all chkB = true := by decide +kernel
theorem kB4 : (pths 4).all chkB = true := by decide +kernel
theorem kB5 : (pths 5).all chkB = true := by decide +kernel
theorem kB6 : (pths 6).all chkB = true := by decide +kernel
theorem kB7 : (pths 7).all chkB = true := by decide +kernel
theorem kB800 : ((pths 6).all fun p => chkB (0 :: 0 :: p)) = true := by decide +kernel
theorem kB801 : ((pths 6).all fun p => chkB (0 :: 1 :: p)) = true := by decide +kernel
theorem kB810 : ((pths 6).all fun p => chkB (1 :: 0 :: p)) = true := by decide +kernel
theorem kB811 : ((pths 6).all fun p => chkB (1 :: 1 :: p)) = true := by decide +kernel
end Lw

set_option Elab.async false
set_option linter.all false
set_option maxRecDepth 100000
set_option maxHeartbeats 0
namespace Lw
theorem kC0 : (pths 0).all chkC = true := by decide +kernel
theorem kC1 : (pths 1).all chkC = true := by decide +kernel
theorem kC2 : (pths 2).all chkC = true := by decide +kernel
theorem kC3 : (pths 3).all chkC = true := by decide +kernel
theorem kC4 : (pths 4).all chkC = true := by decide +kernel
theorem kC5 : (pths 5).all chkC = true := by decide +kernel
theorem kC6 : (pths 6).all chkC = true := by decide +kernel
theorem kC7 : (pths 7).all chkC = true := by decide +kernel
theorem kC800 : ((pths 6).all fun p => chkC (0 :: 0 :: p)) = true := by decide +kernel
theorem kC801 : ((pths 6).all fun p => chkC (0 :: 1 :: p)) = true := by decide +kernel
theorem kC810 : ((pths 6).all fun p => chkC (1 :: 0 :: p)) = true := by decide +kernel
theorem kC811 : ((pths 6).all fun p => chkC (1 :: 1 :: p)) = true := by decide +kernel
end Lw

set_option Elab.async false
set_option linter.all false
set_option maxRecDepth 100000
set_option maxHeartbeats 0
namespace Lw
theorem kD0 : (pths 0).all chkD = true := by decide +kernel
theorem kD1 : (pths 1).all chkD = true := by decide +kernel
theorem kD2 : (pths 2).all chkD = true := by decide +kernel
theorem kD3 : (pths 3).all chkD = true := by decide +kernel
theorem kD4 : (pths 4).all chkD = true := by decide +kernel
theorem kD5 : (pths 5).all chkD = true := by decide +kernel
theorem kD6 : (pths 6).all chkD = true := by decide +kernel
theorem kD7 : (pths 7).all chkD = true := by decide +kernel
theorem kD800 : ((pths 6).all fun p => chkD (0 :: 0 :: p)) = true := by decide +kernel
theorem kD801 : ((pths 6).all fun p => chkD (0 :: 1 :: p)) = true := by decide +kernel
theorem kD810 : ((pths 6).all fun p => chkD (1 :: 0 :: p)) = true := by decide +kernel
theorem kD811 : ((pths 6).all fun p => chkD (1 :: 1 :: p)) = true := by decide +kernel
end Lw

set_option Elab.async false
set_option linter.all false
set_option maxRecDepth 100000
set_option maxHeartbeats 1000000
namespace Lw
open PySem PySem.Spec PyProof.Rows L2 Mi
section
variable {env : En} {h h1 h2 : Hd}
theorem or_yes {a b : Ft} (e : a env h = .ok true h1) : tOrD a b env h = .ok true h1 := by
  show (a env h).bind _ = _
  rw [e]
  rfl
theorem or_ok {a b : Ft} {x y : Bool} (e : a env h = .ok x h) (e2 : b env h = .ok y h) : tOrD a b env h = .ok (x || y) h := by
  show (a env h).bind _ = _
  rw [e]
  cases x with
  | true => rfl
  | false => exact e2
theorem andD_ok {a b : Ft} {x y : Bool} (e : a env h = .ok x h) (e2 : x = true → b env h = .ok y h) : tAndD a b env h = .ok (x && y) h := by
  show (a env h).bind _ = _
  rw [e]
  cases x with
  | true => exact e2 rfl
  | false => rfl
theorem chain_le {fa fb fc : Fe} {a b c : Int} (ea : fa env h = .ok (.int a) h) (eb : fb env h = .ok (.int b) h) (ec : fc env h = .ok (.int c) h) : eChain gLe gLe fa fb fc env h = .ok (.bl (decide (a ≤ b) && decide (b ≤ c))) h := by
  show (fa env h).bind _ = _
  rw [ea]
  show (fb env h).bind _ = _
  rw [eb]
  by_cases q : a ≤ b
  · rw [decide_eq_true q]
    show (match D.bl (decide (a ≤ b)) with
      | .bl true => (fc env h).bind fun u h4 => gLe (.int b) u h4
      | .bl false => .ok (.bl false) h
      | _ => .no) = _
    rw [decide_eq_true q]
    show (fc env h).bind _ = _
    rw [ec]
    rfl
  · rw [decide_eq_false q]
    show (match D.bl (decide (a ≤ b)) with
      | .bl true => (fc env h).bind fun u h4 => gLe (.int b) u h4
      | .bl false => .ok (.bl false) h
      | _ => .no) = _
    rw [decide_eq_false q]
    rfl
theorem leN {fa fb : Fe} {i j : Nat} (ea : fa env h = .ok (.int i) h1) (eb : fb env h1 = .ok (.int j) h2) : eOp gLe fa fb env h = .ok (.bl (decide (i ≤ j))) h2 := by
  refine (op_ok ea eb).trans ?_
  show Res.ok (D.bl (decide ((i : Int) ≤ j))) h2 = _
  rw [show decide ((i : Int) ≤ j) = decide (i ≤ j) from decide_eq_decide.mpr (by omega)]
theorem gtN {fa fb : Fe} {i j : Nat} (ea : fa env h = .ok (.int i) h1) (eb : fb env h1 = .ok (.int j) h2) : eOp gGt fa fb env h = .ok (.bl (decide (j < i))) h2 := by
  refine (op_ok ea eb).trans ?_
  show Res.ok (D.bl (decide ((j : Int) < i))) h2 = _
  rw [show decide ((j : Int) < i) = decide (j < i) from decide_eq_decide.mpr (by omega)]
theorem eqN {fa fb : Fe} {i j : Nat} (ea : fa env h = .ok (.int i) h1) (eb : fb env h1 = .ok (.int j) h2) : eOp gEq fa fb env h = .ok (.bl (decide (i = j))) h2 := by
  refine (op_ok ea eb).trans ?_
  show Res.ok (D.bl (decide ((i : Int) = j))) h2 = _
  rw [show decide ((i : Int) = j) = decide (i = j) from decide_eq_decide.mpr (by omega)]
theorem subN {fa fb : Fe} {i j : Nat} (ea : fa env h = .ok (.int i) h1) (eb : fb env h1 = .ok (.int j) h2) (hij : j ≤ i) : eOp gSub fa fb env h = .ok (.int ((i - j : Nat) : Int)) h2 := by
  refine (op_ok ea eb).trans ?_
  show Res.ok (D.int ((i : Int) - j)) h2 = _
  rw [Int.ofNat_sub hij]
end
/-! ### the root -/
def r1 (n : Nat) : Nat → Nat → Option Nat
  | 0, _ => none
  | k + 1, x => bif Nat.blt x 1000000 then (bif Nat.ble (x * x) n then frc (x * x) (r1 n k) else some x) else none
def r2 (n : Nat) : Nat → Nat → Option Nat
  | 0, _ => none
  | k + 1, x => bif Nat.blt (x + 1) 1000000 && Nat.blt 0 x then (bif Nat.blt n (x * x) || Nat.ble ((x + 1) * (x + 1)) n then frc ((x + n / x) / 2) (r2 n k) else some x) else none
def rt (n : Nat) : Option Nat := bif Nat.blt n 2 then some n else (match r1 n 40 2 with
  | some x => r2 n 80 x
  | none => none)
theorem blt_dec (a b : Nat) : Nat.blt a b = decide (a < b) := by
  rw [Bool.eq_iff_iff, decide_eq_true_eq]
  exact ⟨fun q => Nat.le_of_ble_eq_true q, fun q => Nat.ble_eq_true_of_le q⟩
theorem beq_dec' (a b : Nat) : Nat.beq a b = decide (a = b) := by
  rw [Bool.eq_iff_iff, decide_eq_true_eq]
  exact ⟨Nat.eq_of_beq_eq_true, fun h => by rw [h]; exact Nat.beq_refl b⟩
theorem loop1 {n : Nat} {h : Hd} : ∀ (k x m y : Nat), r1 n k x = some y → k < m → whileL (tOf (eOp gLe (eOp gMul (eVar 1) (eVar 1)) (eVar 0))) (sAsg (eOp gMul (eVar 1) (eVar 1)) (gSet 1)) m [some (.int n), some (.int x)] h = .nx [some (.int n), some (.int y)] h
  | 0, _, _, _, e, _ => by cases e
  | _ + 1, _, 0, _, _, hm => absurd hm (Nat.not_lt_zero _)
  | k + 1, x, m + 1, y, e, hm => by
    unfold r1 at e
    rw [blt_dec, ble_dec] at e
    by_cases hx : x < 1000000
    · rw [decide_eq_true hx, cond_true, frc_eq] at e
      have c : tOf (eOp gLe (eOp gMul (eVar 1) (eVar 1)) (eVar 0)) [some (.int n), some (.int x)] h = .ok (decide (x * x ≤ n)) h := tOf_ok (leN (mulN rfl rfl hx) rfl)
      unfold whileL
      rw [c]
      by_cases hq : x * x ≤ n
      · rw [decide_eq_true hq, cond_true] at e
        rw [decide_eq_true hq]
        dsimp only
        rw [asg_ok (i := 1) (mulN (i := x) (j := x) rfl rfl hx) (by simp)]
        exact loop1 k (x * x) m y e (by omega)
      · rw [decide_eq_false hq, cond_false] at e
        cases e
        rw [decide_eq_false hq]
    · rw [decide_eq_false hx, cond_false] at e
      cases e
theorem loop2 {n : Nat} {h : Hd} : ∀ (k x m y : Nat), r2 n k x = some y → k < m → whileL (tOrD (tOf (eOp gGt (eOp gMul (eVar 1) (eVar 1)) (eVar 0))) (tOf (eOp gLe (eOp gMul (eOp gAdd (eVar 1) (eC (.int 1))) (eOp gAdd (eVar 1) (eC (.int 1)))) (eVar 0)))) (sAsg (eOp gFdv (eOp gAdd (eVar 1) (eOp gFdv (eVar 0) (eVar 1))) (eC (.int 2))) (gSet 1)) m [some (.int n), some (.int x)] h = .nx [some (.int n), some (.int y)] h
  | 0, _, _, _, e, _ => by cases e
  | _ + 1, _, 0, _, _, hm => absurd hm (Nat.not_lt_zero _)
  | k + 1, x, m + 1, y, e, hm => by
    unfold r2 at e
    rw [blt_dec, blt_dec, blt_dec, ble_dec] at e
    by_cases hx : x + 1 < 1000000 ∧ 0 < x
    · rw [decide_eq_true hx.1, decide_eq_true hx.2, Bool.and_self, cond_true, frc_eq] at e
      · have hx0 : x < 1000000 := by omega
        have c : tOrD (tOf (eOp gGt (eOp gMul (eVar 1) (eVar 1)) (eVar 0))) (tOf (eOp gLe (eOp gMul (eOp gAdd (eVar 1) (eC (.int 1))) (eOp gAdd (eVar 1) (eC (.int 1)))) (eVar 0))) [some (.int n), some (.int x)] h = .ok (decide (n < x * x) || decide ((x + 1) * (x + 1) ≤ n)) h :=
          or_ok (tOf_ok (gtN (mulN rfl rfl hx0) rfl)) (tOf_ok (leN (mulN (addN (j := 1) rfl rfl) (addN (j := 1) rfl rfl) hx.1) rfl))
        unfold whileL
        rw [c]
        cases hq : (decide (n < x * x) || decide ((x + 1) * (x + 1) ≤ n)) with
        | true =>
          rw [hq, cond_true] at e
          dsimp only
          rw [asg_ok (i := 1) (divN (i := x + n / x) (j := 2) (addN (i := x) (j := n / x) rfl (divN rfl rfl hx.2 hx0)) rfl (by decide) (by decide)) (by simp)]
          exact loop2 k _ m y e (by omega)
        | false =>
          rw [hq, cond_false] at e
          cases e
          rfl
    · have : (decide (x + 1 < 1000000) && decide (0 < x)) = false := by simp; omega
      rw [this, cond_false] at e
      cases e
theorem root_ok {n r : Nat} (e : rt n = some r) (h : Hd) : loc s__law_root [.int n] h = .ok (.int r) h := by
  have key : s__law_root [.int n] [] = .ok (.int r) [] := by
    unfold rt at e
    rw [blt_dec] at e
    have c : tOf (eOp gLt (eVar 0) (eC (.int 2))) [some (.int n), none] [] = .ok (decide (n < 2)) [] := by
      refine tOf_ok ((op_ok (x := .int n) (y := .int 2) rfl rfl).trans ?_)
      show Res.ok (D.bl (decide ((n : Int) < 2))) [] = _
      rw [show decide ((n : Int) < 2) = decide (n < 2) from decide_eq_decide.mpr (by omega)]
    by_cases hn : n < 2
    · rw [decide_eq_true hn] at e c
      cases e
      exact run_rt [some (.int n), none] (seq_rt ((if_yes c).trans (ret_ok rfl)))
    · rw [decide_eq_false hn] at e c
      rw [cond_false] at e
      cases e1 : r1 n 40 2 with
      | none => rw [e1] at e; cases e
      | some x =>
        rw [e1] at e
        have w1 := loop1 (h := []) 40 2 most x e1 (by rw [most_eq]; decide)
        have w2 := loop2 (h := []) 80 x most r e (by rw [most_eq]; decide)
        exact run_rt [some (.int n), none] ((seq_nx (if_no c)).trans ((seq_nx (env1 := [some (.int n), some (.int 2)]) (h1 := []) (asg_ok (i := 1) rfl (by simp))).trans ((seq_nx w1).trans ((seq_nx w2).trans (ret_ok rfl)))))
  exact loc_ok key rfl rfl
/-! ### one pair that is tried -/
def cellN (t a : Nat) : Option (List T3) :=
  frc (3 * a * t) fun m => frc (4 * (a * a + t * t)) fun s => bif Nat.ble s (m * m) && (Nat.blt m 1000000 && (Nat.blt a 1000 && Nat.blt t 1000)) then frc (m * m - s) fun u => (match rt u with
    | some r => bif Nat.blt r 1000000 && Nat.ble r m then (bif Nat.beq (r * r) u && Nat.beq ((m - r) % 2) 0 then frc ((m - r) / 2) fun y => (bif Nat.ble a y && Nat.ble y t then some [(a, y, t)] else some []) else some []) else none
    | none => none) else none
abbrev ET (M f : Nat) (v2 v3 v4 v5 v6 v7 : Option D) : En := [some (.int M), some (.ref f), v2, v3, v4, v5, v6, v7]
abbrev trBody : Fs := (sSeq (sAsg (eOp gMul (eOp gMul (eC (.int 3)) (eVar 3)) (eVar 2)) (gSet 4))
    (sSeq (sAsg (eOp gSub (eOp gMul (eVar 4) (eVar 4)) (eOp gMul (eC (.int 4)) (eOp gAdd (eOp gMul (eVar 3) (eVar 3)) (eOp gMul (eVar 2) (eVar 2))))) (gSet 5))
    (sSeq (sAsg (eIf (tOf (eOp gGe (eVar 5) (eC (.int 0)))) (eCall (loc s__law_root) (aCons (eVar 5) aNil)) (eC (.int 0))) (gSet 6))
    (sIf (tAndD (tOf (eOp gGe (eVar 5) (eC (.int 0)))) (tAndD (tOf (eOp gEq (eOp gMul (eVar 6) (eVar 6)) (eVar 5))) (tOf (eOp gEq (eOp gMod (eOp gSub (eVar 4) (eVar 6)) (eC (.int 2))) (eC (.int 0)))))) (sSeq (sAsg (eOp gFdv (eOp gSub (eVar 4) (eVar 6)) (eC (.int 2))) (gSet 7))
    (sIf (tOf (eChain gLe gLe (eVar 3) (eVar 7) (eVar 2))) (sExpr (eMeth "list" mAppend (eVar 1) (aCons (eTup (aCons (eVar 3) (aCons (eVar 7) (aCons (eVar 2) aNil)))) aNil))) sNil)) sNil))))
theorem cell_ok {M f t a : Nat} {v4 v5 v6 v7 : Option D} {h : Hd} {acc R : List T3} (e : cellN t a = some R) (hf : h[f]? = some (.lst (rowD acc))) (hl : acc.length ≤ 100000) :
    ∃ v4' v5' v6' v7' h', trBody (ET M f (some (.int t)) (some (.int a)) v4 v5 v6 v7) h = .nx (ET M f (some (.int t)) (some (.int a)) v4' v5' v6' v7') h' ∧ h'[f]? = some (.lst (rowD (acc ++ R))) := by
  unfold cellN at e
  rw [frc_eq, frc_eq, ble_dec, blt_dec, blt_dec, blt_dec] at e
  by_cases hc : 4 * (a * a + t * t) ≤ 3 * a * t * (3 * a * t) ∧ 3 * a * t < 1000000 ∧ a < 1000 ∧ t < 1000
  · obtain ⟨c1, c2, c3, c4⟩ := hc
    rw [decide_eq_true c1, decide_eq_true c2, decide_eq_true c3, decide_eq_true c4, Bool.and_self, Bool.and_self, Bool.and_self, cond_true, frc_eq] at e
    have s1 : sAsg (eOp gMul (eOp gMul (eC (.int 3)) (eVar 3)) (eVar 2)) (gSet 4) (ET M f (some (.int t)) (some (.int a)) v4 v5 v6 v7) h = .nx (ET M f (some (.int t)) (some (.int a)) (some (.int (3 * a * t : Nat))) v5 v6 v7) h :=
      asg_ok (i := 4) (mulN (i := 3 * a) (j := t) (mulN (i := 3) (j := a) rfl rfl (by decide)) rfl (by omega)) (by simp)
    generalize hm : 3 * a * t = m at *
    generalize hs : 4 * (a * a + t * t) = s at *
    have s2 : sAsg (eOp gSub (eOp gMul (eVar 4) (eVar 4)) (eOp gMul (eC (.int 4)) (eOp gAdd (eOp gMul (eVar 3) (eVar 3)) (eOp gMul (eVar 2) (eVar 2))))) (gSet 5) (ET M f (some (.int t)) (some (.int a)) (some (.int m)) v5 v6 v7) h = .nx (ET M f (some (.int t)) (some (.int a)) (some (.int m)) (some (.int (m * m - s : Nat))) v6 v7) h :=
      asg_ok (i := 5) (subN (i := m * m) (j := s) (mulN rfl rfl c2) (by rw [← hs]; exact mulN (i := 4) (j := a * a + t * t) rfl (addN (mulN rfl rfl (by omega)) (mulN rfl rfl (by omega))) (by decide)) c1) (by simp)
    generalize m * m - s = u at *
    cases er : rt u with
    | none => rw [er] at e; cases e
    | some r =>
      rw [er] at e
      dsimp only at e
      rw [blt_dec, ble_dec] at e
      have g0 : ∀ w6 w7, tOf (eOp gGe (eVar 5) (eC (.int 0))) (ET M f (some (.int t)) (some (.int a)) (some (.int m)) (some (.int u)) w6 w7) h = .ok true h := fun w6 w7 => by
        refine tOf_ok ((op_ok (x := .int u) (y := .int 0) rfl rfl).trans ?_)
        show Res.ok (D.bl (decide ((0 : Int) ≤ u))) h = _
        rw [decide_eq_true (show (0 : Int) ≤ u by omega)]
      have s3 : sAsg (eIf (tOf (eOp gGe (eVar 5) (eC (.int 0)))) (eCall (loc s__law_root) (aCons (eVar 5) aNil)) (eC (.int 0))) (gSet 6) (ET M f (some (.int t)) (some (.int a)) (some (.int m)) (some (.int u)) v6 v7) h = .nx (ET M f (some (.int t)) (some (.int a)) (some (.int m)) (some (.int u)) (some (.int r)) v7) h :=
        asg_ok (i := 6) (if_ok' (g0 _ _) ((call_ok (cons_ok rfl rfl)).trans (root_ok er h)) rfl) (by simp)
      by_cases hr : r < 1000000 ∧ r ≤ m
      · rw [decide_eq_true hr.1, decide_eq_true hr.2, Bool.and_self, cond_true, frc_eq, beq_dec', beq_dec'] at e
        have c : tAndD (tOf (eOp gGe (eVar 5) (eC (.int 0)))) (tAndD (tOf (eOp gEq (eOp gMul (eVar 6) (eVar 6)) (eVar 5))) (tOf (eOp gEq (eOp gMod (eOp gSub (eVar 4) (eVar 6)) (eC (.int 2))) (eC (.int 0))))) (ET M f (some (.int t)) (some (.int a)) (some (.int m)) (some (.int u)) (some (.int r)) v7) h = .ok (true && (decide (r * r = u) && decide ((m - r) % 2 = 0))) h :=
          andD_ok (g0 _ _) fun _ => andD_ok (tOf_ok (eqN (mulN rfl rfl hr.1) rfl)) fun _ => tOf_ok (eqN (j := 0) (modN (i := m - r) (j := 2) (subN rfl rfl hr.2) rfl (by decide)) rfl)
        rw [Bool.true_and] at c
        cases hq : (decide (r * r = u) && decide ((m - r) % 2 = 0)) with
        | false =>
          rw [hq, cond_false] at e
          rw [hq] at c
          cases e
          refine ⟨_, _, _, _, h, (seq_nx s1).trans ((seq_nx s2).trans ((seq_nx s3).trans (if_no c))), ?_⟩
          rw [List.append_nil]
          exact hf
        | true =>
          rw [hq, cond_true, ble_dec, ble_dec] at e
          rw [hq] at c
          have s4 : sAsg (eOp gFdv (eOp gSub (eVar 4) (eVar 6)) (eC (.int 2))) (gSet 7) (ET M f (some (.int t)) (some (.int a)) (some (.int m)) (some (.int u)) (some (.int r)) v7) h = .nx (ET M f (some (.int t)) (some (.int a)) (some (.int m)) (some (.int u)) (some (.int r)) (some (.int ((m - r) / 2 : Nat)))) h :=
            asg_ok (i := 7) (divN (i := m - r) (j := 2) (subN rfl rfl hr.2) rfl (by decide) (by decide)) (by simp)
          generalize (m - r) / 2 = y at *
          have c5 : tOf (eChain gLe gLe (eVar 3) (eVar 7) (eVar 2)) (ET M f (some (.int t)) (some (.int a)) (some (.int m)) (some (.int u)) (some (.int r)) (some (.int y))) h = .ok (decide (a ≤ y) && decide (y ≤ t)) h := by
            refine tOf_ok ((chain_le (a := a) (b := y) (c := t) rfl rfl rfl).trans ?_)
            rw [show decide ((a : Int) ≤ y) = decide (a ≤ y) from decide_eq_decide.mpr (by omega), show decide ((y : Int) ≤ t) = decide (y ≤ t) from decide_eq_decide.mpr (by omega)]
          cases hy : (decide (a ≤ y) && decide (y ≤ t)) with
          | false =>
            rw [hy, cond_false] at e
            rw [hy] at c5
            cases e
            refine ⟨_, _, _, _, h, (seq_nx s1).trans ((seq_nx s2).trans ((seq_nx s3).trans ((if_yes c).trans ((seq_nx s4).trans (if_no c5))))), ?_⟩
            rw [List.append_nil]
            exact hf
          | true =>
            rw [hy, cond_true] at e
            rw [hy] at c5
            cases e
            have hfl : f < h.length := (List.getElem?_eq_some_iff.mp hf).1
            have s6 : sExpr (eMeth "list" mAppend (eVar 1) (aCons (eTup (aCons (eVar 3) (aCons (eVar 7) (aCons (eVar 2) aNil)))) aNil)) (ET M f (some (.int t)) (some (.int a)) (some (.int m)) (some (.int u)) (some (.int r)) (some (.int y))) h = .nx (ET M f (some (.int t)) (some (.int a)) (some (.int m)) (some (.int u)) (some (.int r)) (some (.int y))) (h.set f (.lst (rowD acc ++ [t3 (a, y, t)]))) :=
              expr_ok (d := .non) (meth_lst (t := f) rfl hf (cons_ok (x := t3 (a, y, t)) (h1 := h) ((tup_ok (xs := [.int a, .int y, .int t]) (cons_ok rfl (cons_ok rfl (cons_ok rfl rfl))) (by simp)).trans rfl) rfl) (app_ok hf (by rw [List.length_map]; omega)))
            refine ⟨_, _, _, _, h.set f (.lst (rowD acc ++ [t3 (a, y, t)])), (seq_nx s1).trans ((seq_nx s2).trans ((seq_nx s3).trans ((if_yes c).trans ((seq_nx s4).trans ((if_yes c5).trans s6))))), ?_⟩
            rw [List.getElem?_set_self hfl]
            unfold rowD
            rw [List.map_append]
            rfl
      · have : (decide (r < 1000000) && decide (r ≤ m)) = false := by simp; omega
        rw [this, cond_false] at e
        cases e
  · have : (decide (4 * (a * a + t * t) ≤ 3 * a * t * (3 * a * t)) && (decide (3 * a * t < 1000000) && (decide (a < 1000) && decide (t < 1000)))) = false := by
      cases q1 : decide (4 * (a * a + t * t) ≤ 3 * a * t * (3 * a * t)) <;> cases q2 : decide (3 * a * t < 1000000) <;> cases q3 : decide (a < 1000) <;> cases q4 : decide (t < 1000) <;> first | rfl | exact absurd ⟨of_decide_eq_true q1, of_decide_eq_true q2, of_decide_eq_true q3, of_decide_eq_true q4⟩ hc
    rw [this, cond_false] at e
    cases e
end Lw

set_option Elab.async false
set_option linter.all false
set_option maxRecDepth 100000
set_option maxHeartbeats 1000000
namespace Lw
open PySem PySem.Spec PyProof.Rows L2 Mi
def rowN (t : Nat) : Nat → Option (List T3)
  | 0 => some []
  | i + 1 => match rowN t i with
    | some R => (match cellN t (i + 1) with
      | some S => bif Nat.blt (R ++ S).length 1000 then some (R ++ S) else none
      | none => none)
    | none => none
def triedN : Nat → Option (List T3)
  | 0 => some []
  | i + 1 => match triedN i with
    | some R => (match rowN (i + 1) (i + 1) with
      | some S => bif Nat.blt (R ++ S).length 1000 then some (R ++ S) else none
      | none => none)
    | none => none
theorem rowN_succ {t i : Nat} {L : List T3} (e : rowN t (i + 1) = some L) : ∃ R S, rowN t i = some R ∧ cellN t (i + 1) = some S ∧ L = R ++ S ∧ L.length < 1000 := by
  rw [rowN] at e
  cases q : rowN t i with
  | none => rw [q] at e; cases e
  | some R =>
    rw [q] at e
    dsimp only at e
    cases q2 : cellN t (i + 1) with
    | none => rw [q2] at e; cases e
    | some S =>
      rw [q2] at e
      dsimp only at e
      rw [blt_dec] at e
      by_cases hl : (R ++ S).length < 1000
      · rw [decide_eq_true hl, cond_true] at e
        cases e
        exact ⟨R, S, rfl, rfl, rfl, hl⟩
      · rw [decide_eq_false hl, cond_false] at e
        cases e
theorem triedN_succ {i : Nat} {L : List T3} (e : triedN (i + 1) = some L) : ∃ R S, triedN i = some R ∧ rowN (i + 1) (i + 1) = some S ∧ L = R ++ S ∧ L.length < 1000 := by
  rw [triedN] at e
  cases q : triedN i with
  | none => rw [q] at e; cases e
  | some R =>
    rw [q] at e
    dsimp only at e
    cases q2 : rowN (i + 1) (i + 1) with
    | none => rw [q2] at e; cases e
    | some S =>
      rw [q2] at e
      dsimp only at e
      rw [blt_dec] at e
      by_cases hl : (R ++ S).length < 1000
      · rw [decide_eq_true hl, cond_true] at e
        cases e
        exact ⟨R, S, rfl, rfl, rfl, hl⟩
      · rw [decide_eq_false hl, cond_false] at e
        cases e
theorem rowN_pre {t i : Nat} : ∀ {n : Nat} {L : List T3}, rowN t n = some L → i ≤ n → ∃ L', rowN t i = some L'
  | n, L, e, h => by
    by_cases q : i = n
    · exact ⟨L, q ▸ e⟩
    · cases n with
      | zero => omega
      | succ n =>
        obtain ⟨R, S, e1, _, _, _⟩ := rowN_succ e
        exact rowN_pre e1 (by omega)
theorem triedN_pre {i : Nat} : ∀ {n : Nat} {L : List T3}, triedN n = some L → i ≤ n → ∃ L', triedN i = some L'
  | n, L, e, h => by
    by_cases q : i = n
    · exact ⟨L, q ▸ e⟩
    · cases n with
      | zero => omega
      | succ n =>
        obtain ⟨R, S, e1, _, _, _⟩ := triedN_succ e
        exact triedN_pre e1 (by omega)
theorem step_set {i : Nat} {body : Fs} {d : D} {env env' : En} {h h' : Hd} (hi : i < env.length) (e : body (env.set i (some d)) h = .nx env' h') : stepS (gSet i) body d env h = .nx env' h' := by
  unfold stepS gSet
  rw [if_pos hi]
  dsimp only
  rw [e]
theorem nat_int (i : Nat) : D.int (1 + (i : Nat) * 1) = D.int ((i + 1 : Nat) : Int) := by
  rw [show (1 : Int) + (i : Nat) * 1 = ((i + 1 : Nat) : Int) by omega]
def inner : Fs := sFor (iRng2D (aCons (eC (.int 1)) (aCons (eOp gAdd (eVar 2) (eC (.int 1))) aNil))) (gSet 3) trBody
theorem inner_ok {M f t : Nat} {v3 v4 v5 v6 v7 : Option D} {h : Hd} {acc R : List T3} (e : rowN t t = some R) (ht : t ≤ 1000) (hf : h[f]? = some (.lst (rowD acc))) (hl : acc.length ≤ 1000) :
    ∃ w3 w4 w5 w6 w7 h', inner (ET M f (some (.int t)) v3 v4 v5 v6 v7) h = .nx (ET M f (some (.int t)) w3 w4 w5 w6 w7) h' ∧ h'[f]? = some (.lst (rowD (acc ++ R))) := by
  have key := for_inv (src := rngS 1 t 1) (tg := gSet 3) (body := trBody) (env := ET M f (some (.int t)) v3 v4 v5 v6 v7) (h := h) t (fun i => .int (1 + (i : Nat) * 1))
    (fun i env h1 => (∃ w3 w4 w5 w6 w7, env = ET M f (some (.int t)) w3 w4 w5 w6 w7) ∧ ∃ S, rowN t i = some S ∧ h1[f]? = some (.lst (rowD (acc ++ S)))) ⟨⟨_, _, _, _, _, rfl⟩, [], rfl, by rw [List.append_nil]; exact hf⟩ ?_ ?_ (by rw [most_eq]; omega)
  · obtain ⟨env', h', e1, ⟨w3, w4, w5, w6, w7, rfl⟩, S, e2, q⟩ := key
    rw [e] at e2
    cases e2
    refine ⟨w3, w4, w5, w6, w7, h', (sFor_ok (tg := gSet 3) (body := trBody) ?_).trans e1, q⟩
    have := rng2_ok (env := ET M f (some (.int t)) v3 v4 v5 v6 v7) (h := h) (h1 := h) (fa := aCons (eC (.int 1)) (aCons (eOp gAdd (eVar 2) (eC (.int 1))) aNil)) (i := 1) (j := (t : Int) + 1) (cons_ok rfl (cons_ok ((op_ok (x := .int t) (y := .int 1) rfl rfl).trans rfl) rfl)) (rng_small (by decide) (by decide)) (rng_small (by omega) (by omega))
    rw [show ((t : Int) + 1 - 1).toNat = t by omega] at this
    exact this
  · rintro i env h1 hi ⟨⟨w3, w4, w5, w6, w7, rfl⟩, S, e2, q⟩
    obtain ⟨L', e3⟩ := rowN_pre (i := i + 1) e (by omega)
    obtain ⟨S', C, e4, e5, rfl, hl2⟩ := rowN_succ e3
    rw [e2] at e4
    cases e4
    rw [List.length_append] at hl2
    obtain ⟨u4, u5, u6, u7, h', e6, q6⟩ := cell_ok (M := M) (v4 := w4) (v5 := w5) (v6 := w6) (v7 := w7) e5 q (by rw [List.length_append]; omega)
    refine ⟨rng_item hi, ET M f (some (.int t)) (some (.int ((i + 1 : Nat) : Int))) u4 u5 u6 u7, h', ?_, ⟨_, _, _, _, _, rfl⟩, S ++ C, e3, by rw [← List.append_assoc]; exact q6⟩
    rw [nat_int]
    show (match trBody (ET M f (some (.int t)) (some (.int ((i + 1 : Nat) : Int))) w4 w5 w6 w7) h1 with
      | .ct env2 h2 => SRes.nx env2 h2
      | r => r) = _
    rw [e6]
  · rintro env h1 _
    exact rng_stop
theorem outer_ok {M : Nat} {L : List T3} (e : triedN M = some L) (hM : M ≤ 1000) : ∃ w2 w3 w4 w5 w6 w7 h', forL (rngS 1 M 1) (gSet 2) inner most 0 (ET M 0 none none none none none none) [.lst []] = .nx (ET M 0 w2 w3 w4 w5 w6 w7) h' ∧ h'[0]? = some (.lst (rowD L)) := by
  have key := for_inv (src := rngS 1 M 1) (tg := gSet 2) (body := inner) (env := ET M 0 none none none none none none) (h := [.lst []]) M (fun i => .int (1 + (i : Nat) * 1))
    (fun i env h1 => (∃ w2 w3 w4 w5 w6 w7, env = ET M 0 w2 w3 w4 w5 w6 w7) ∧ ∃ S, triedN i = some S ∧ h1[0]? = some (.lst (rowD S))) ⟨⟨_, _, _, _, _, _, rfl⟩, [], rfl, rfl⟩ ?_ ?_ (by rw [most_eq]; omega)
  · obtain ⟨env', h', e1, ⟨w2, w3, w4, w5, w6, w7, rfl⟩, S, e2, q⟩ := key
    rw [e] at e2
    cases e2
    exact ⟨w2, w3, w4, w5, w6, w7, h', e1, q⟩
  · rintro i env h1 hi ⟨⟨w2, w3, w4, w5, w6, w7, rfl⟩, S, e2, q⟩
    obtain ⟨L', e3⟩ := triedN_pre (i := i + 1) e (by omega)
    obtain ⟨S', C, e4, e5, rfl, hl2⟩ := triedN_succ e3
    rw [e2] at e4
    cases e4
    rw [List.length_append] at hl2
    obtain ⟨u3, u4, u5, u6, u7, h', e6, q6⟩ := inner_ok (M := M) (v3 := w3) (v4 := w4) (v5 := w5) (v6 := w6) (v7 := w7) e5 (by omega) q (by omega)
    refine ⟨rng_item hi, ET M 0 (some (.int ((i + 1 : Nat) : Int))) u3 u4 u5 u6 u7, h', ?_, ⟨_, _, _, _, _, _, rfl⟩, S ++ C, e3, q6⟩
    rw [nat_int]
    exact step_set (by simp) e6
  · rintro env h1 _
    exact rng_stop
theorem tried_1 {M : Nat} {L : List T3} (e : triedN M = some L) (hM : M ≤ 1000) : ∃ w2 w3 w4 w5 w6 w7 h', b__law_tried_1 (ET M 0 none none none none none none) [.lst []] = .nx (ET M 0 w2 w3 w4 w5 w6 w7) h' ∧ h'[0]? = some (.lst (rowD L)) := by
  obtain ⟨w2, w3, w4, w5, w6, w7, h', e1, q⟩ := outer_ok e hM
  have this := rng2_ok (env := ET M 0 none none none none none none) (h := [.lst []]) (h1 := [.lst []]) (fa := aCons (eC (.int 1)) (aCons (eOp gAdd (eVar 0) (eC (.int 1))) aNil)) (i := 1) (j := (M : Int) + 1) (cons_ok rfl (cons_ok ((op_ok (x := .int M) (y := .int 1) rfl rfl).trans rfl) rfl)) (rng_small (by decide) (by decide)) (rng_small (by omega) (by omega))
  rw [show ((M : Int) + 1 - 1).toNat = M by omega] at this
  refine ⟨w2, w3, w4, w5, w6, w7, h', ?_, q⟩
  exact (sFor_ok (tg := gSet 2) (body := inner) this).trans e1
theorem tried_ok {M : Nat} {L : List T3} (e : triedN M = some L) (hM : M ≤ 1000) (h : Hd) : loc s__law_tried [.int M] h = .ok (.ref h.length) (h ++ [.lst ((srt L).map tupI)]) := by
  obtain ⟨w2, w3, w4, w5, w6, w7, h', s1, q⟩ := tried_1 e hM
  have s0 : b__law_tried_0 [some (.int M), none, none, none, none, none, none, none] [] = .nx (ET M 0 none none none none none none) [.lst []] := asg_ok (i := 1) nil_ok (by simp)
  have run : s__law_tried [.int M] [] = .ok (.ref h'.length) (h' ++ [.lst ((srt L).map tupI)]) := run_rt [some (.int M), none, none, none, none, none, none, none] ((seq_nx s0).trans ((seq_nx s1).trans (ret_ok ((call_ok (cons_ok rfl rfl)).trans (sortR_lst q)))))
  exact loc_lst (F := s__law_tried) run rfl at_new (purs_rows _)
/-! ### what the kernel looks at -/
def eqL : List Int → List Int → Bool
  | [], [] => true
  | x :: xs, y :: ys => decide (x = y) && eqL xs ys
  | _, _ => false
theorem eqL_eq : ∀ {x y : List Int}, eqL x y = true → x = y
  | [], [], _ => rfl
  | x :: xs, y :: ys, h => by
    unfold eqL at h
    obtain ⟨h1, h2⟩ := He.ba h
    rw [of_decide_eq_true h1, eqL_eq h2]
  | [], _ :: _, h => by cases h
  | _ :: _, [], h => by cases h
def eqRR : List (List Int) → List (List Int) → Bool
  | [], [] => true
  | x :: xs, y :: ys => eqL x y && eqRR xs ys
  | _, _ => false
theorem eqRR_eq : ∀ {x y : List (List Int)}, eqRR x y = true → x = y
  | [], [], _ => rfl
  | x :: xs, y :: ys, h => by
    unfold eqRR at h
    obtain ⟨h1, h2⟩ := He.ba h
    rw [eqL_eq h1, eqRR_eq h2]
  | [], _ :: _, h => by cases h
  | _ :: _, [], h => by cases h
abbrev pick (n : Nat) (l : List (List Int)) : List (List Int) := l.filter fun r => decide (thr r = n)
def chkT (m : Nat) (L : List T3) : Bool := match ownN m with
  | some O => eqRR (srt O) (srt L) && (rep0 (.tup ((srt O).map tupI)) && (rep0 (.tup ((pick m (srt O)).map tupI)) && ((List.range m).all fun j => bif Nat.beq ((j + 1) % 7) 1 || Nat.beq (j + 1) m then (match ownN (j + 1) with
    | some O' => eqRR (pick (j + 1) (srt O)) (pick (j + 1) (srt O'))
    | none => false) else true)))
  | none => false
def goT : Nat → Nat → List T3 → Bool
  | 0, _, _ => true
  | j + 1, k, L => match rowN (k + 1) (k + 1) with
    | some S => Nat.blt (L ++ S).length 1000 && (chkT (k + 1) (L ++ S) && goT j (k + 1) (L ++ S))
    | none => false
theorem goT_ok : ∀ {j k : Nat} {L : List T3}, goT j k L = true → triedN k = some L → ∀ i, k < i → i ≤ k + j → ∃ L', triedN i = some L' ∧ chkT i L' = true
  | 0, k, L, _, _, i, h1, h2 => by omega
  | j + 1, k, L, h, e, i, h1, h2 => by
    unfold goT at h
    cases q : rowN (k + 1) (k + 1) with
    | none => rw [q] at h; cases h
    | some S =>
      rw [q] at h
      obtain ⟨g1, h⟩ := He.ba h
      obtain ⟨g2, g3⟩ := He.ba h
      have e2 : triedN (k + 1) = some (L ++ S) := by
        rw [triedN, e]
        dsimp only
        rw [q]
        dsimp only
        rw [g1, cond_true]
      by_cases hi : i = k + 1
      · subst hi
        exact ⟨_, e2, g2⟩
      · exact goT_ok g3 e2 i (by omega) (by omega)
end Lw

set_option Elab.async false
set_option linter.all false
set_option maxRecDepth 100000
set_option maxHeartbeats 1000000
namespace Lw
theorem tried_chk : goT 120 0 [] = true := by decide +kernel
end Lw

set_option Elab.async false
set_option linter.all false
set_option maxRecDepth 100000
set_option maxHeartbeats 1000000
namespace Lw
open PySem PySem.Spec PyProof.Rows L2 Mi
theorem mem_pths : ∀ p : List Nat, (∀ x ∈ p, x = 0 ∨ x = 1) → p ∈ pths p.length
  | [], _ => by simp [pths]
  | x :: p, hp => by
    have ih := mem_pths p fun y hy => hp y (List.mem_cons_of_mem _ hy)
    rw [List.length_cons]
    unfold pths
    rw [List.mem_flatMap]
    refine ⟨p, ih, ?_⟩
    rcases hp x (List.mem_cons_self ..) with rfl | rfl <;> simp
theorem all8 {f : List Nat → Bool} (h0 : (pths 0).all f = true) (h1 : (pths 1).all f = true) (h2 : (pths 2).all f = true) (h3 : (pths 3).all f = true) (h4 : (pths 4).all f = true) (h5 : (pths 5).all f = true) (h6 : (pths 6).all f = true) (h7 : (pths 7).all f = true)
    (g00 : ((pths 6).all fun p => f (0 :: 0 :: p)) = true) (g01 : ((pths 6).all fun p => f (0 :: 1 :: p)) = true) (g10 : ((pths 6).all fun p => f (1 :: 0 :: p)) = true) (g11 : ((pths 6).all fun p => f (1 :: 1 :: p)) = true)
    {p : List Nat} (hp : ∀ x ∈ p, x = 0 ∨ x = 1) (hl : p.length ≤ 8) : f p = true := by
  have m := mem_pths p hp
  by_cases h8 : p.length = 8
  · cases p with
    | nil => cases h8
    | cons x p =>
      cases p with
      | nil => cases h8
      | cons y p =>
        have m2 := mem_pths p fun z hz => hp z (List.mem_cons_of_mem _ (List.mem_cons_of_mem _ hz))
        have e : p.length = 6 := by simpa using h8
        rw [e] at m2
        rcases hp x (List.mem_cons_self ..) with rfl | rfl <;> rcases hp y (List.mem_cons_of_mem _ (List.mem_cons_self ..)) with rfl | rfl
        · exact List.all_eq_true.mp g00 p m2
        · exact List.all_eq_true.mp g01 p m2
        · exact List.all_eq_true.mp g10 p m2
        · exact List.all_eq_true.mp g11 p m2
  · have : p.length = 0 ∨ p.length = 1 ∨ p.length = 2 ∨ p.length = 3 ∨ p.length = 4 ∨ p.length = 5 ∨ p.length = 6 ∨ p.length = 7 := by omega
    rcases this with e | e | e | e | e | e | e | e <;> rw [e] at m
    · exact List.all_eq_true.mp h0 p m
    · exact List.all_eq_true.mp h1 p m
    · exact List.all_eq_true.mp h2 p m
    · exact List.all_eq_true.mp h3 p m
    · exact List.all_eq_true.mp h4 p m
    · exact List.all_eq_true.mp h5 p m
    · exact List.all_eq_true.mp h6 p m
    · exact List.all_eq_true.mp h7 p m
structure PathOk (p : List Nat) (a b c : Nat) : Prop where
  c1 : 1 ≤ c
  c2 : c + 1 ≤ bigM
  tri : ∀ h, loc s_triple_at [pth p] h = .ok (t3 (a, b, c)) h
  law : ∀ h, loc s__law_triple [pth p] h = .ok (t3 (a, b, c)) h
  path : ∀ h, loc s_path_of [t3 (a, b, c)] h = .ok (pth p) h
  need : ∀ h, loc s_need_triple [t3 (a, b, c)] h = .ok .non h
  repP : ∃ s, ∀ h, gRepr [pth p] h = .ok (.str s) h
  repT : ∃ s, ∀ h, gRepr [t3 (a, b, c)] h = .ok (.str s) h
  repO : ∃ s, ∀ h, gRepr [.tup [t3 (a, b, c)]] h = .ok (.str s) h
  of : ∀ h, loc s_triples_of [.int c] h = .ok (.tup [t3 (a, b, c)]) h
  mkv : ∀ h, loc s_is_markov [.int c] h = .ok (.bl true) h
  nxt : ∃ l : List (List Int), (∀ h, loc s_triples_of [.int (c + 1 : Nat)] h = .ok (.tup (l.map tupI)) h) ∧ ∀ h, loc s_is_markov [.int (c + 1 : Nat)] h = .ok (.bl (!l.isEmpty)) h
  n1 : ∀ h, loc s_need_triple [.tup [.int a, .int b]] h = .ex (bad .non) h
  n2 : ∀ h, loc s_need_triple [.tup [.int 0, .int b, .int c]] h = .ex (bad .non) h
  n3 : ∀ h, loc s_need_triple [.tup [.bl true, .int b, .int c]] h = .ex (bad .non) h
  n4 : ∀ h, loc s_need_triple [t3 (b, a, c)] h = .ex (bad (.str "order")) h
  n5 : ∀ h, loc s_need_triple [t3 (c, b, a)] h = .ex (bad (.str "order")) h
  n6 : ∀ h, loc s_need_triple [t3 (a, b, c + 1)] h = .ex (bad (.str "sum")) h
theorem any_pick (l : List (List Int)) (n : Nat) : (l.any fun r => decide (thr r = n)) = !(pick n l).isEmpty := by
  induction l with
  | nil => rfl
  | cons a l ih =>
    rw [List.any_cons, ih]
    show _ = !((a :: l).filter fun r => decide (thr r = n)).isEmpty
    rw [List.filter_cons]
    cases decide (thr a = n) <;> simp
theorem path_ok {p : List Nat} (hp : ∀ x ∈ p, x = 0 ∨ x = 1) (hl : p.length ≤ 8) : ∃ a b c, PathOk p a b c := by
  have qa := all8 kA0 kA1 kA2 kA3 kA4 kA5 kA6 kA7 kA800 kA801 kA810 kA811 hp hl
  have qb := all8 kB0 kB1 kB2 kB3 kB4 kB5 kB6 kB7 kB800 kB801 kB810 kB811 hp hl
  have qc := all8 kC0 kC1 kC2 kC3 kC4 kC5 kC6 kC7 kC800 kC801 kC810 kC811 hp hl
  have qd := all8 kD0 kD1 kD2 kD3 kD4 kD5 kD6 kD7 kD800 kD801 kD810 kD811 hp hl
  unfold chkA at qa
  unfold chkB at qb
  unfold chkC at qc
  unfold chkD at qd
  generalize triF p (1, 2, 5) = t at *
  obtain ⟨a, b, c⟩ := t
  dsimp only at qa qb qc qd
  cases oa : ownN c with
  | none => rw [oa] at qa; cases qa
  | some L =>
    rw [oa] at qa
    cases ob : ownN (c + 1) with
    | none => rw [ob] at qb; cases qb
    | some L2 =>
      obtain ⟨x0, qc⟩ := He.ba qc
      obtain ⟨x1, x2⟩ := He.ba x0
      obtain ⟨x3, qc⟩ := He.ba qc
      obtain ⟨x4, qc⟩ := He.ba qc
      obtain ⟨x5, qc⟩ := He.ba qc
      obtain ⟨x6, qc⟩ := He.ba qc
      obtain ⟨x7, qc⟩ := He.ba qc
      obtain ⟨x8, x9⟩ := He.ba qc
      obtain ⟨y1, qd⟩ := He.ba qd
      obtain ⟨y2, qd⟩ := He.ba qd
      obtain ⟨y3, qd⟩ := He.ba qd
      obtain ⟨y4, qd⟩ := He.ba qd
      obtain ⟨y5, y6⟩ := He.ba qd
      have c1 := Nat.le_of_ble_eq_true x1
      have c2 := Nat.le_of_ble_eq_true x2
      have sf := srt_filter (oneIs_filter qa)
      refine ⟨a, b, c, c1, c2, isL_ok x3, isL_ok x4, isL_ok x5, isL_ok x6, rep0_ok x7, rep0_ok x8, rep0_ok x9, fun h => ?_, fun h => ?_, ⟨pick (c + 1) (srt L2), fun h => of_ok ob (by omega) c2 h, fun h => ?_⟩, isX_ok y1, isX_ok y2, isX_ok y3, isX_ok y4, isX_ok y5, isX_ok y6⟩
      · rw [of_ok oa c1 (by omega) h, sf]
        rfl
      · rw [is_markov_ok oa c1 (by omega) h, any_pick]
        unfold pick
        rw [sf]
        rfl
      · rw [is_markov_ok ob (by omega) c2 h, any_pick]
end Lw

set_option Elab.async false
set_option linter.all false
set_option maxRecDepth 100000
set_option maxHeartbeats 1000000
namespace Lw
open PySem PySem.Spec PyProof.Rows L2 Mi
section
variable {env env1 : En} {h h1 h2 : Hd} {e : Exn}
theorem seq_ex {f g : Fs} (q : f env h = .ex e env1 h1) : sSeq f g env h = .ex e env1 h1 := by
  show (match f env h with
    | .nx env1 h1 => g env1 h1
    | r => r) = _
  rw [q]
theorem expr_ex {f : Fe} (q : f env h = .ex e h1) : sExpr f env h = .ex e env h1 := by
  show (match f env h with
    | .ok d h1 => SRes.nx env h1
    | .ex e h1 => SRes.ex e env h1
    | .no => SRes.no) = _
  rw [q]
theorem run_ex {m : Nat} {b : Fs} {ds : List D} (env : En) (q : b env h = .ex e env1 h1) (he : ds.map some ++ List.replicate (m - ds.length) none = env := by rfl) : runF m b ds h = .ex e h1 := by
  unfold runF
  rw [he, q]
theorem raise_ok {c f : Str} {fe : Fe} {d : D} (q : fe env h = .ok d h1) : sRaise c f fe env h = .ex ⟨c, f, d⟩ env h1 := by
  show (match fe env h with
    | .ok d h1 => SRes.ex ⟨c, f, d⟩ env h1
    | .ex e h1 => SRes.ex e env h1
    | .no => SRes.no) = _
  rw [q]
end
theorem v_ok {i : Nat} {x : D} {env : En} {h : Hd} (e : env[i]? = some (some x)) (n : ∀ m, x ≠ .lam m) : eVar i env h = .ok x h := by
  unfold eVar
  rw [e]
  cases x <;> first | rfl | exact absurd rfl (n _)
/-! ### what is no triple -/
theorem high_ex {x : D} {h h1 : Hd} {e : Exn} (n : ∀ m, x ≠ .lam m) (q : loc s_need_triple [x] h = .ex e h1) : s_need_high [x] h = .ex e h1 := run_ex [some x] (seq_ex (expr_ex ((call_ok (cons_ok (v_ok (i := 0) rfl n) rfl)).trans q)))
theorem path_ex {x : D} {h h1 : Hd} {e : Exn} (n : ∀ m, x ≠ .lam m) (q : loc s_need_high [x] h = .ex e h1) : s_path_of [x] h = .ex e h1 := run_ex [some x] (seq_ex (expr_ex ((call_ok (cons_ok (v_ok (i := 0) rfl n) rfl)).trans q)))
theorem pathP_ex {x : D} {e : Exn} (px : purs [x] = true) (pe : pur e.v = true) (n : ∀ m, x ≠ .lam m) (q : ∀ h, loc s_need_triple [x] h = .ex e h) (h : Hd) : loc s_path_of [x] h = .ex e h :=
  loc_ex (path_ex (h := []) n (loc_ex (high_ex (h := []) n (q [])) px pe)) px pe
/-- a list is no triple -/
theorem need_ref {k : Nat} {xs : List D} {h : Hd} (q : h[k]? = some (.lst xs)) : loc s_need_triple [.ref k] h = .ex (bad .non) (h ++ [.lst [.non]] ++ [.lst []]) := by
  rw [loc_plain rfl]
  have ty : gIsi [.ref k, .ty "tuple"] h = .ok (.bl false) h := by
    unfold gIsi
    dsimp only
    rw [show tyName (.ref k) h = some "list" by unfold tyName; dsimp only; rw [q]]
    rfl
  have a1 : loc s_are_numbers [.ref k] h = .ok (.bl false) h := by
    rw [loc_plain rfl]
    refine run_rt [some (.ref k), none] (ret_ok ?_)
    show (eCall gIsi (aCons (eVar 0) (aCons (eC (.ty "tuple")) aNil)) [some (.ref k), none] h).bind _ = _
    rw [(call_ok (cons_ok (h1 := h) rfl (cons_ok rfl rfl))).trans ty]
    rfl
  have a2 : loc s_wrong_triple [.ref k] h = .ok (.ref h.length) (h ++ [.lst [.non]]) := by
    rw [loc_plain rfl]
    exact run_rt [some (.ref k)] (seq_rt ((if_yes (not_ok (b := false) (tOf_ok ((call_ok (cons_ok rfl rfl)).trans a1)))).trans (ret_ok (lst_ok (cons_ok rfl rfl) (by simp)))))
  have s1 : b_need_triple_0 [some (.ref k), none] h = .nx [some (.ref k), some (.ref h.length)] (h ++ [.lst [.non]]) := asg_ok (i := 1) ((call_ok (cons_ok rfl rfl)).trans a2) (by simp)
  have q1 : (h ++ [Ob.lst [D.non]])[h.length]? = some (.lst [.non]) := at_new
  generalize (h ++ [Ob.lst [D.non]]) = g at *
  have c : tOf (eOp gNe (eVar 1) (eLst aNil)) [some (.ref k), some (.ref h.length)] g = .ok true (g ++ [.lst []]) := by
    refine tOf_ok ((op_ok (x := .ref h.length) (y := .ref g.length) (h1 := g) rfl nil_ok).trans ?_)
    have e1 : toP maxP (g ++ [Ob.lst []]) (.ref h.length) = some (.list [.none]) := by
      have := app_old (l := [Ob.lst []]) q1
      show toP (22 + 2) (g ++ [Ob.lst []]) (.ref h.length) = _
      unfold toP
      rw [this]
      rfl
    have e2 : toP maxP (g ++ [Ob.lst []]) (.ref g.length) = some (.list []) := by
      have : (g ++ [Ob.lst []])[g.length]? = some (.lst []) := at_new
      show toP (22 + 2) (g ++ [Ob.lst []]) (.ref g.length) = _
      unfold toP
      rw [this]
      rfl
    exact (deep_ok (k := not) e1 e2 rfl rfl).trans rfl
  refine run_ex [some (.ref k), none] ((seq_nx s1).trans ((if_yes c).trans (raise_ok ((op_ok (x := .ref h.length) (y := .int 0) rfl rfl).trans ?_))))
  unfold gIx
  dsimp only
  rw [app_old q1]
  rfl
theorem path_ref {k : Nat} {xs : List D} {h : Hd} (q : h[k]? = some (.lst xs)) : loc s_path_of [.ref k] h = .ex (bad .non) (h ++ [.lst [.non]] ++ [.lst []]) := by
  rw [loc_plain rfl]
  refine path_ex (fun _ z => by cases z) ?_
  rw [loc_plain rfl]
  exact high_ex (fun _ z => by cases z) (need_ref q)
end Lw

set_option Elab.async false
set_option linter.all false
set_option maxRecDepth 100000
set_option maxHeartbeats 1000000
namespace Lw
open PySem PySem.Spec PyProof.Rows L2 Mi
abbrev deedBody : Fs := sIf (tOf (eOp gNe (eCall gRepr (aCons (eTold (toldF 3 b__law_told) (eCallV 12 [("need_triple", (loc s_need_triple)), ("path_of", (loc s_path_of))] (aCons (eVar 10) aNil))) aNil)) (eCall gRepr (aCons (eTup (aCons (eC (.str "triple")) (aCons (eVar 11) aNil))) aNil)))) (sRet (eC (.bl false))) sNil
theorem neS_same {fa fb : Fe} {s : Str} {env : En} {h h1 h2 : Hd} (ea : fa env h = .ok (.str s) h1) (eb : fb env h1 = .ok (.str s) h2) : tOf (eOp gNe fa fb) env h = .ok false h2 := tOf_ok ((neS ea eb).trans (by rw [decide_eq_true rfl]; rfl))
theorem deed_pass {env : En} {h h1 : Hd} {x v : D} {n : Str} {F : List D → Hd → Res D} (e10 : env[10]? = some (some x)) (e11 : env[11]? = some (some v)) (e12 : env[12]? = some (some (.gl n))) (hL : ([("need_triple", (loc s_need_triple)), ("path_of", (loc s_path_of))] : Tb).lookup n = some F)
    (q : F [x] h = .ex (bad v) h1) (nx : ∀ m, x ≠ .lam m) (nv : ∀ m, v ≠ .lam m) (rep : ∃ s, ∀ h, gRepr [.tup [.str "triple", v]] h = .ok (.str s) h) : deedBody env h = .nx env h1 := by
  obtain ⟨s, rep⟩ := rep
  have cv : eCallV 12 [("need_triple", (loc s_need_triple)), ("path_of", (loc s_path_of))] (aCons (eVar 10) aNil) env h = .ex (bad v) h1 := by
    unfold eCallV
    rw [e12]
    dsimp only
    rw [hL]
    dsimp only
    rw [cons_ok (v_ok (h := h) e10 nx) rfl]
    exact q
  have t : eTold (toldF 3 b__law_told) (eCallV 12 [("need_triple", (loc s_need_triple)), ("path_of", (loc s_path_of))] (aCons (eVar 10) aNil)) env h = .ok (.tup [.str "triple", v]) h1 := told_triple cv
  exact if_no (neS_same (s := s) ((call_ok (cons_ok t rfl)).trans (rep h1)) ((call_ok (cons_ok (tup_ok (cons_ok rfl (cons_ok (v_ok (h := h1) e11 nv) rfl)) (by simp)) rfl)).trans (rep h1)))
abbrev ER (s : Nat) (v1 v2 v3 v4 v5 v6 v7 v8 v9 v10 v11 v12 : Option D) : En := [some (.ref s), v1, v2, v3, v4, v5, v6, v7, v8, v9, v10, v11, v12, none]
abbrev badBody : Fs := sFor (iOf (eTup (aCons (eC (.gl "need_triple")) (aCons (eC (.gl "path_of")) aNil)))) (gSet 12) deedBody
def BadAt (h0 : Hd) (x v : D) : Prop := (∀ m, x ≠ .lam m) ∧ (∀ m, v ≠ .lam m) ∧ (∃ s, ∀ h, gRepr [.tup [.str "triple", v]] h = .ok (.str s) h) ∧ ∀ h, Kp [] h0 h → (∃ h1, loc s_need_triple [x] h = .ex (bad v) h1 ∧ Kp [] h h1) ∧ ∃ h1, loc s_path_of [x] h = .ex (bad v) h1 ∧ Kp [] h h1
theorem bad_turn {s : Nat} {v1 v2 v3 v4 v5 v6 v7 v8 v9 w10 w11 w12 : Option D} {h0 h : Hd} {x v : D} (B : BadAt h0 x v) (k : Kp [] h0 h) :
    ∃ u12 h', stepS (gUnp 2 (gsCons (gSet 10) (gsCons (gSet 11) gsNil))) badBody (.tup [x, v]) (ER s v1 v2 v3 v4 v5 v6 v7 v8 v9 w10 w11 w12) h = .nx (ER s v1 v2 v3 v4 v5 v6 v7 v8 v9 (some x) (some v) u12) h' ∧ Kp [] h0 h' := by
  obtain ⟨nx, nv, rep, B⟩ := B
  obtain ⟨env', h', e', ⟨u, rfl⟩, k'⟩ := for_tup (tg := gSet 12) (body := deedBody) (env := ER s v1 v2 v3 v4 v5 v6 v7 v8 v9 (some x) (some v) w12) (h := h) (xs := [.gl "need_triple", .gl "path_of"]) (fun env h => (∃ u, env = ER s v1 v2 v3 v4 v5 v6 v7 v8 v9 (some x) (some v) u) ∧ Kp [] h0 h) ⟨⟨_, rfl⟩, k⟩ (by
    rintro d hd env h1 ⟨⟨u, rfl⟩, k1⟩
    obtain ⟨⟨g1, b1, y1⟩, g2, b2, y2⟩ := B h1 k1
    rcases List.mem_cons.mp hd with rfl | hd
    · exact ⟨_, g1, step_set (by simp) (deed_pass (n := "need_triple") rfl rfl rfl rfl b1 nx nv rep), ⟨_, rfl⟩, k1.trans y1⟩
    · rcases List.mem_cons.mp hd with rfl | hd
      · exact ⟨_, g2, step_set (by simp) (deed_pass (n := "path_of") rfl rfl rfl rfl b2 nx nv rep), ⟨_, rfl⟩, k1.trans y2⟩
      · cases hd) (by simp)
  refine ⟨u, h', ?_, k'⟩
  have b : badBody (ER s v1 v2 v3 v4 v5 v6 v7 v8 v9 (some x) (some v) w12) h = .nx (ER s v1 v2 v3 v4 v5 v6 v7 v8 v9 (some x) (some v) u) h' := (sFor_ok (iOf_tup (tup_ok (cons_ok rfl (cons_ok rfl rfl)) (by simp)))).trans e'
  show (match badBody (ER s v1 v2 v3 v4 v5 v6 v7 v8 v9 (some x) (some v) w12) h with
    | .ct env2 h2 => SRes.nx env2 h2
    | r => r) = _
  rw [b]
theorem badP {h0 : Hd} {x v : D} (px : purs [x] = true) (pv : pur v = true) (nx : ∀ m, x ≠ .lam m) (nv : ∀ m, v ≠ .lam m) (rep : rep0 (.tup [.str "triple", v]) = true) (q : ∀ h, loc s_need_triple [x] h = .ex (bad v) h) : BadAt h0 x v :=
  ⟨nx, nv, rep0_ok rep, fun h _ => ⟨⟨h, q h, Kp.refl⟩, h, pathP_ex px pv nx q h, Kp.refl⟩⟩
theorem rep_non : rep0 (.tup [.str "triple", .non]) = true := by decide +kernel
theorem rep_order : rep0 (.tup [.str "triple", .str "order"]) = true := by decide +kernel
theorem rep_sum : rep0 (.tup [.str "triple", .str "sum"]) = true := by decide +kernel
theorem non_chk : isX s_need_triple [.non] (bad .non) = true := by decide +kernel
theorem badR {h0 : Hd} {k : Nat} {xs : List D} (q : h0[k]? = some (.lst xs)) : BadAt h0 (.ref k) .non :=
  ⟨fun _ z => by (cases z), fun _ z => by (cases z), rep0_ok rep_non, fun h kp => ⟨⟨_, need_ref (kp.at_ _ _ (by simp) q), Kp.app.trans Kp.app⟩, _, path_ref (kp.at_ _ _ (by simp) q), Kp.app.trans Kp.app⟩⟩
/-- all that is wrong -/
theorem bad_all {s a b c : Nat} {p : List Nat} {v1 v2 v3 v4 v5 w9 w10 w11 w12 : Option D} {h : Hd} (P : PathOk p a b c) :
    ∃ u9 u10 u11 u12 h', sSeq (sAsg (eLst (aCons (eTup (aCons (eC .non) (aCons (eC .non) aNil))) (aCons (eTup (aCons (eTup (aCons (eVar 6) (aCons (eVar 7) aNil))) (aCons (eC .non) aNil))) (aCons (eTup (aCons (eLst (aCons (eVar 6) (aCons (eVar 7) (aCons (eVar 8) aNil)))) (aCons (eC .non) aNil))) (aCons (eTup (aCons (eTup (aCons (eC (.int 0)) (aCons (eVar 7) (aCons (eVar 8) aNil)))) (aCons (eC .non) aNil))) (aCons (eTup (aCons (eTup (aCons (eC (.bl true)) (aCons (eVar 7) (aCons (eVar 8) aNil)))) (aCons (eC .non) aNil))) aNil)))))) (gSet 9))
    (sSeq (sAsg (eOp gAdd (eVar 9) (eLst (aCons (eTup (aCons (eTup (aCons (eVar 7) (aCons (eVar 6) (aCons (eVar 8) aNil)))) (aCons (eC (.str "order")) aNil))) (aCons (eTup (aCons (eTup (aCons (eVar 8) (aCons (eVar 7) (aCons (eVar 6) aNil)))) (aCons (eC (.str "order")) aNil))) (aCons (eTup (aCons (eTup (aCons (eVar 6) (aCons (eVar 7) (aCons (eOp gAdd (eVar 8) (eC (.int 1))) aNil)))) (aCons (eC (.str "sum")) aNil))) aNil))))) (gSet 9))
    (sFor (iOf (eVar 9)) (gUnp 2 (gsCons (gSet 10) (gsCons (gSet 11) gsNil))) badBody)) (ER s v1 v2 v3 v4 v5 (some (.int a)) (some (.int b)) (some (.int c)) w9 w10 w11 w12) h = .nx (ER s v1 v2 v3 v4 v5 (some (.int a)) (some (.int b)) (some (.int c)) u9 u10 u11 u12) h' ∧ Kp [] h h' := by
  let W1 : List D := [.tup [.non, .non], .tup [.tup [.int a, .int b], .non], .tup [.ref h.length, .non], .tup [.tup [.int 0, .int b, .int c], .non], .tup [.tup [.bl true, .int b, .int c], .non]]
  let W2 : List D := [.tup [t3 (b, a, c), .str "order"], .tup [t3 (c, b, a), .str "order"], .tup [t3 (a, b, c + 1), .str "sum"]]
  let h1 : Hd := h ++ [.lst [.int a, .int b, .int c]] ++ [.lst W1]
  let h2 : Hd := h1 ++ [.lst W2] ++ [.lst (W1 ++ W2)]
  have r1 : h1.length = h.length + 2 := by simp [h1]
  have q0 : h2[h.length]? = some (.lst [.int a, .int b, .int c]) := app_old (app_old (app_old at_new))
  have qW1 : h1[h.length + 1]? = some (.lst W1) := by
    have : (h ++ [Ob.lst [D.int a, .int b, .int c]]).length = h.length + 1 := by simp
    rw [← this]
    exact at_new
  have s1 : sAsg (eLst (aCons (eTup (aCons (eC .non) (aCons (eC .non) aNil))) (aCons (eTup (aCons (eTup (aCons (eVar 6) (aCons (eVar 7) aNil))) (aCons (eC .non) aNil))) (aCons (eTup (aCons (eLst (aCons (eVar 6) (aCons (eVar 7) (aCons (eVar 8) aNil)))) (aCons (eC .non) aNil))) (aCons (eTup (aCons (eTup (aCons (eC (.int 0)) (aCons (eVar 7) (aCons (eVar 8) aNil)))) (aCons (eC .non) aNil))) (aCons (eTup (aCons (eTup (aCons (eC (.bl true)) (aCons (eVar 7) (aCons (eVar 8) aNil)))) (aCons (eC .non) aNil))) aNil)))))) (gSet 9) (ER s v1 v2 v3 v4 v5 (some (.int a)) (some (.int b)) (some (.int c)) w9 w10 w11 w12) h = .nx (ER s v1 v2 v3 v4 v5 (some (.int a)) (some (.int b)) (some (.int c)) (some (.ref (h.length + 1))) w10 w11 w12) h1 := by
    refine asg_ok (i := 9) (d := .ref (h.length + 1)) ?_ (by simp)
    have t : ∀ {fa : Fa} {env : En} {h h1 : Hd} {xs : List D}, fa env h = .ok xs h1 → xs.length ≤ 1000 → eTup fa env h = .ok (.tup xs) h1 := fun e l => tup_ok e l
    have := lst_ok (fa := (aCons (eTup (aCons (eC .non) (aCons (eC .non) aNil))) (aCons (eTup (aCons (eTup (aCons (eVar 6) (aCons (eVar 7) aNil))) (aCons (eC .non) aNil))) (aCons (eTup (aCons (eLst (aCons (eVar 6) (aCons (eVar 7) (aCons (eVar 8) aNil)))) (aCons (eC .non) aNil))) (aCons (eTup (aCons (eTup (aCons (eC (.int 0)) (aCons (eVar 7) (aCons (eVar 8) aNil)))) (aCons (eC .non) aNil))) (aCons (eTup (aCons (eTup (aCons (eC (.bl true)) (aCons (eVar 7) (aCons (eVar 8) aNil)))) (aCons (eC .non) aNil))) aNil)))))) (env := ER s v1 v2 v3 v4 v5 (some (.int a)) (some (.int b)) (some (.int c)) w9 w10 w11 w12) (h := h) (h1 := h ++ [.lst [.int a, .int b, .int c]]) (xs := W1)
      (cons_ok (t (cons_ok rfl (cons_ok rfl rfl)) (by simp)) (cons_ok (t (cons_ok (t (cons_ok rfl (cons_ok rfl rfl)) (by simp)) (cons_ok rfl rfl)) (by simp)) (cons_ok (h1 := h ++ [.lst [.int a, .int b, .int c]]) (t (cons_ok (lst_ok (cons_ok rfl (cons_ok rfl (cons_ok rfl rfl))) (by simp)) (cons_ok rfl rfl)) (by simp)) (cons_ok (t (cons_ok (t (cons_ok rfl (cons_ok rfl (cons_ok rfl rfl))) (by simp)) (cons_ok rfl rfl)) (by simp)) (cons_ok (t (cons_ok (t (cons_ok rfl (cons_ok rfl (cons_ok rfl rfl))) (by simp)) (cons_ok rfl rfl)) (by simp)) rfl))))) (by simp [W1])
    rw [this]
    congr 2
    simp
  have s2 : sAsg (eOp gAdd (eVar 9) (eLst (aCons (eTup (aCons (eTup (aCons (eVar 7) (aCons (eVar 6) (aCons (eVar 8) aNil)))) (aCons (eC (.str "order")) aNil))) (aCons (eTup (aCons (eTup (aCons (eVar 8) (aCons (eVar 7) (aCons (eVar 6) aNil)))) (aCons (eC (.str "order")) aNil))) (aCons (eTup (aCons (eTup (aCons (eVar 6) (aCons (eVar 7) (aCons (eOp gAdd (eVar 8) (eC (.int 1))) aNil)))) (aCons (eC (.str "sum")) aNil))) aNil))))) (gSet 9) (ER s v1 v2 v3 v4 v5 (some (.int a)) (some (.int b)) (some (.int c)) (some (.ref (h.length + 1))) w10 w11 w12) h1 = .nx (ER s v1 v2 v3 v4 v5 (some (.int a)) (some (.int b)) (some (.int c)) (some (.ref (h1 ++ [Ob.lst W2]).length)) w10 w11 w12) h2 := by
    refine asg_ok (i := 9) (d := .ref (h1 ++ [Ob.lst W2]).length) ?_ (by simp)
    have t : ∀ {fa : Fa} {env : En} {h h1 : Hd} {xs : List D}, fa env h = .ok xs h1 → xs.length ≤ 1000 → eTup fa env h = .ok (.tup xs) h1 := fun e l => tup_ok e l
    refine (op_ok (x := .ref (h.length + 1)) (y := .ref h1.length) (h1 := h1) (h2 := h1 ++ [.lst W2]) rfl (lst_ok (xs := W2) (cons_ok (t (cons_ok (t (cons_ok rfl (cons_ok rfl (cons_ok rfl rfl))) (by simp [toI])) (cons_ok rfl rfl)) (by simp)) (cons_ok (t (cons_ok (t (cons_ok rfl (cons_ok rfl (cons_ok rfl rfl))) (by simp [toI])) (cons_ok rfl rfl)) (by simp)) (cons_ok (t (cons_ok (t (cons_ok rfl (cons_ok rfl (cons_ok ((op_ok (x := .int c) (y := .int 1) rfl rfl).trans rfl) rfl))) (by simp [toI])) (cons_ok rfl rfl)) (by simp)) rfl))) (by simp [W2]))).trans ?_
    exact cat_lst (app_old qW1) at_new (by simp [W1, W2])
  have q2 : h2[(h1 ++ [Ob.lst W2]).length]? = some (.lst (W1 ++ W2)) := at_new
  obtain ⟨env', h', e', ⟨u10, u11, u12, rfl⟩, k'⟩ := for_ref (tg := gUnp 2 (gsCons (gSet 10) (gsCons (gSet 11) gsNil))) (body := badBody) (env := ER s v1 v2 v3 v4 v5 (some (.int a)) (some (.int b)) (some (.int c)) (some (.ref (h1 ++ [Ob.lst W2]).length)) w10 w11 w12) (h := h2) (a := (h1 ++ [Ob.lst W2]).length) (xs := W1 ++ W2)
    (fun env h => (∃ u10 u11 u12, env = ER s v1 v2 v3 v4 v5 (some (.int a)) (some (.int b)) (some (.int c)) (some (.ref (h1 ++ [Ob.lst W2]).length)) u10 u11 u12) ∧ Kp [] h2 h) ⟨⟨_, _, _, rfl⟩, Kp.refl⟩ q2 (by rintro env hh ⟨_, k⟩; exact k.at_ _ _ (by simp) q2) (by
    rintro d hd env hh ⟨⟨u10, u11, u12, rfl⟩, k⟩
    have go : ∀ {x v : D}, d = .tup [x, v] → BadAt h2 x v → ∃ env' h', stepS (gUnp 2 (gsCons (gSet 10) (gsCons (gSet 11) gsNil))) badBody d (ER s v1 v2 v3 v4 v5 (some (.int a)) (some (.int b)) (some (.int c)) (some (.ref (h1 ++ [Ob.lst W2]).length)) u10 u11 u12) hh = .nx env' h' ∧ (∃ u10 u11 u12, env' = ER s v1 v2 v3 v4 v5 (some (.int a)) (some (.int b)) (some (.int c)) (some (.ref (h1 ++ [Ob.lst W2]).length)) u10 u11 u12) ∧ Kp [] h2 h' := fun {x v} e B => by
      subst e
      obtain ⟨u, g, e, k⟩ := bad_turn (s := s) (v1 := v1) (v2 := v2) (v3 := v3) (v4 := v4) (v5 := v5) (v6 := some (.int a)) (v7 := some (.int b)) (v8 := some (.int c)) (v9 := some (.ref (h1 ++ [Ob.lst W2]).length)) (w10 := u10) (w11 := u11) (w12 := u12) B k
      exact ⟨_, g, e, ⟨_, _, _, rfl⟩, k⟩
    have hd : d = .tup [.non, .non] ∨ d = .tup [.tup [.int a, .int b], .non] ∨ d = .tup [.ref h.length, .non] ∨ d = .tup [.tup [.int 0, .int b, .int c], .non] ∨ d = .tup [.tup [.bl true, .int b, .int c], .non] ∨ d = .tup [t3 (b, a, c), .str "order"] ∨ d = .tup [t3 (c, b, a), .str "order"] ∨ d = .tup [t3 (a, b, c + 1), .str "sum"] := by simpa [W1, W2] using hd
    rcases hd with rfl | rfl | rfl | rfl | rfl | rfl | rfl | rfl
    · exact go rfl (badP rfl rfl (fun _ z => by cases z) (fun _ z => by cases z) rep_non (isX_ok non_chk))
    · exact go rfl (badP rfl rfl (fun _ z => by cases z) (fun _ z => by cases z) rep_non P.n1)
    · exact go rfl (badR q0)
    · exact go rfl (badP rfl rfl (fun _ z => by cases z) (fun _ z => by cases z) rep_non P.n2)
    · exact go rfl (badP rfl rfl (fun _ z => by cases z) (fun _ z => by cases z) rep_non P.n3)
    · exact go rfl (badP rfl rfl (fun _ z => by cases z) (fun _ z => by cases z) rep_order P.n4)
    · exact go rfl (badP rfl rfl (fun _ z => by cases z) (fun _ z => by cases z) rep_order P.n5)
    · exact go rfl (badP rfl rfl (fun _ z => by cases z) (fun _ z => by cases z) rep_sum P.n6)) (by simp [W1, W2])
  refine ⟨_, u10, u11, u12, h', (seq_nx s1).trans ((seq_nx s2).trans ((sFor_ok (iOf_ref rfl q2)).trans e')), ?_⟩
  have k0 : Kp [] h h2 := (Kp.app.trans Kp.app).trans (Kp.app.trans Kp.app)
  exact k0.trans k'
end Lw

set_option Elab.async false
set_option linter.all false
set_option maxRecDepth 100000
set_option maxHeartbeats 1000000
namespace Lw
open PySem PySem.Spec PyProof.Rows L2 Mi
/-- a for loop whose turn at n ends with an exception -/
theorem forx_go {src : Src} {tg : Fg} {body : Fs} {x : Exn} (n : Nat) (it : Nat → D) (P : Nat → En → Hd → Prop) (hs : ∀ i env h, i < n → P i env h → src h i = .item (it i) ∧ ∃ env' h', stepS tg body (it i) env h = .nx env' h' ∧ P (i + 1) env' h')
    (he : ∀ env h, P n env h → src h n = .item (it n) ∧ ∃ env' h', stepS tg body (it n) env h = .ex x env' h') : ∀ (k i m : Nat) (env : En) (h : Hd), i + k = n → k < m → P i env h → ∃ env' h', forL src tg body m i env h = .ex x env' h'
  | 0, i, m + 1, env, h, e, _, p => by
    have : i = n := by omega
    subst this
    obtain ⟨a, env', h', b⟩ := he env h p
    refine ⟨env', h', ?_⟩
    unfold forL
    rw [a]
    dsimp only
    unfold stepS at b
    cases q : tg (it i) env h with
    | none => rw [q] at b; cases b
    | some z =>
      obtain ⟨env1, h1⟩ := z
      rw [q] at b
      dsimp only at b ⊢
      cases w : body env1 h1 with
      | ex y env2 h2 => rw [w] at b; exact b
      | nx _ _ => rw [w] at b; cases b
      | ct _ _ => rw [w] at b; cases b
      | bk _ _ => rw [w] at b; cases b
      | rt _ _ => rw [w] at b; cases b
      | no => rw [w] at b; cases b
  | k + 1, i, m + 1, env, h, e, hm, p => by
    obtain ⟨a, env', h', b, c⟩ := hs i env h (by omega) p
    rw [forL_step a b]
    exact forx_go n it P hs he k (i + 1) m env' h' (by omega) (by omega) c
  | 0, _, 0, _, _, _, hm, _ => absurd hm (Nat.not_lt_zero _)
  | _ + 1, _, 0, _, _, _, hm, _ => absurd hm (Nat.not_lt_zero _)
theorem whole_bit (b : Int) (hb : b = 0 ∨ b = 1) (h : Hd) : loc s_is_whole [.int b, .int 0, .int 1] h = .ok (.bl true) h := by
  rw [is_whole_int]
  rcases hb with rfl | rfl <;> rfl
def oddL : List D := [.non, .int 2, .int (-1), .bl true, .str "0", .tup [.int 0]]
theorem odd_chk : (oddL.all fun d => isL s_is_whole [d, .int 0, .int 1] (.bl false) && sameD d d) = true := by decide +kernel
theorem enm_fix {xs : List D} {h : Hd} {i : Nat} (hi : i < xs.length) : enmS (fixS xs) h i = .item (.tup [.int (i : Nat), xs.getD i .non]) := enm_item (fix_item hi)
abbrev wayBody : Fs := sIf (tNotD (tOf (eCall (loc s_is_whole) (aCons (eVar 2) (aCons (eC (.int 0)) (aCons (eC (.int 1)) aNil)))))) (sRaise "BadRow" "place" (eVar 1)) sNil
theorem notlam_odd : ∀ d ∈ oddL, ∀ m, d ≠ .lam m := by
  intro d hd m e
  subst e
  unfold oddL at hd
  simp at hd
theorem step2 {i j : Nat} {body : Fs} {d e : D} {env env' : En} {h h' : Hd} (hi : i < env.length) (hj : j < env.length) (q : body ((env.set i (some d)).set j (some e)) h = .nx env' h') : stepS (gUnp 2 (gsCons (gSet i) (gsCons (gSet j) gsNil))) body (.tup [d, e]) env h = .nx env' h' := by
  have g : gUnp 2 (gsCons (gSet i) (gsCons (gSet j) gsNil)) (.tup [d, e]) env h = some ((env.set i (some d)).set j (some e), h) := by
    simp [hi, hj]
  unfold stepS
  rw [g]
  dsimp only
  rw [q]
theorem step2x {i j : Nat} {body : Fs} {d e : D} {env env' : En} {h h' : Hd} {x : Exn} (hi : i < env.length) (hj : j < env.length) (q : body ((env.set i (some d)).set j (some e)) h = .ex x env' h') : stepS (gUnp 2 (gsCons (gSet i) (gsCons (gSet j) gsNil))) body (.tup [d, e]) env h = .ex x env' h' := by
  have g : gUnp 2 (gsCons (gSet i) (gsCons (gSet j) gsNil)) (.tup [d, e]) env h = some ((env.set i (some d)).set j (some e), h) := by
    simp [hi, hj]
  unfold stepS
  rw [g]
  dsimp only
  rw [q]
/-- a path with something otherwise at n -/
theorem at_bad {xs : List D} {n : Nat} {d : D} (hp : purs xs = true) (hl : xs.length ≤ 300) (hn : n < xs.length) (hb : ∀ i, i < n → ∃ b : Int, (b = 0 ∨ b = 1) ∧ xs.getD i .non = .int b) (hd : xs.getD n .non = d) (ho : d ∈ oddL) (h : Hd) : loc s_triple_at [.tup xs] h = .ex ⟨"BadRow", "place", .int (n : Nat)⟩ h := by
  have oc := List.all_eq_true.mp odd_chk d ho
  obtain ⟨oc, _⟩ := He.ba oc
  obtain ⟨env', h', e1⟩ := forx_go (src := enmS (fixS xs)) (tg := gUnp 2 (gsCons (gSet 1) (gsCons (gSet 2) gsNil))) (body := wayBody) (x := ⟨"BadRow", "place", .int (n : Nat)⟩) n (fun i => .tup [.int (i : Nat), xs.getD i .non]) (fun i env h => (∃ v1 v2, env = [some (.tup xs), v1, v2, none]) ∧ h = []) (by
    rintro i env h hi ⟨⟨v1, v2, rfl⟩, rfl⟩
    obtain ⟨b, hb, e⟩ := hb i hi
    refine ⟨enm_fix (by omega), [some (.tup xs), some (.int (i : Nat)), some (.int b), none], [], ?_, ⟨_, _, rfl⟩, rfl⟩
    rw [e]
    exact step2 (by simp) (by simp) (if_no (h' := []) (not_ok (b := true) (tOf_ok ((call_ok (cons_ok rfl (cons_ok rfl (cons_ok rfl rfl)))).trans (whole_bit b hb []))))))
    (by
    rintro env h ⟨⟨v1, v2, rfl⟩, rfl⟩
    refine ⟨enm_fix hn, [some (.tup xs), some (.int (n : Nat)), some d, none], [], ?_⟩
    rw [hd]
    exact step2x (by simp) (by simp) ((if_yes (h' := []) (not_ok (b := false) (tOf_ok ((call_ok (cons_ok (v_ok (i := 2) rfl (notlam_odd d ho)) (cons_ok rfl (cons_ok rfl rfl)))).trans (isL_ok oc []))))).trans (raise_ok rfl)))
    n 0 most [some (.tup xs), none, none, none] [] (by omega) (by rw [most_eq]; omega) ⟨⟨_, _, rfl⟩, rfl⟩
  have s0 : b_triple_at_0 [some (.tup xs), none, none, none] [] = .nx [some (.tup xs), none, none, none] [] := by
    have gl : eOp gGt (eCall gLen (aCons (eVar 0) aNil)) (eC (.int 300)) [some (.tup xs), none, none, none] [] = .ok (.bl (decide (300 < xs.length))) [] := gtN (i := xs.length) (j := 300) (h1 := []) ((call_ok (ds := [.tup xs]) (h1 := []) (cons_ok rfl rfl)).trans rfl) rfl
    rw [decide_eq_false (by omega)] at gl
    exact if_no (or_no (h1 := []) (not_ok (b := true) (tOf_ok ((call_ok (cons_ok rfl (cons_ok rfl rfl))).trans rfl))) (tOf_ok gl))
  refine loc_ex (run_ex [some (.tup xs), none, none, none] ((seq_nx s0).trans (seq_ex ((sFor_ok (tg := gUnp 2 (gsCons (gSet 1) (gsCons (gSet 2) gsNil))) (body := wayBody) (h1 := []) rfl).trans e1)))) ?_ rfl
  unfold purs pur
  rw [hp]
  rfl
end Lw

set_option Elab.async false
set_option linter.all false
set_option maxRecDepth 100000
set_option maxHeartbeats 1000000
namespace Lw
open PySem PySem.Spec PyProof.Rows L2 Mi
theorem bits_of : ∀ {ds : List D}, (∀ d ∈ ds, ∃ c : Nat, d = .int c ∧ (c = 0 ∨ c = 1)) → ∃ l : List Nat, ds = l.map (fun c => .int (c : Nat)) ∧ (∀ c ∈ l, c = 0 ∨ c = 1)
  | [], _ => ⟨[], rfl, fun c hc => by cases hc⟩
  | d :: ds, hy => by
    obtain ⟨c, rfl, hc⟩ := hy d (List.mem_cons_self ..)
    obtain ⟨l, rfl, hl⟩ := bits_of (ds := ds) fun z hz => hy z (List.mem_cons_of_mem _ hz)
    refine ⟨c :: l, rfl, fun x hx => ?_⟩
    rcases List.mem_cons.mp hx with rfl | hx
    · exact hc
    · exact hl x hx

theorem path_draw {s : Nat} {n : Int} {h : Hd} (st : St s n h) (hn : n ≤ 80000) {v1 v2 v3 v4 v5 v6 v7 v8 v9 v10 v11 v12 : Option D} :
    ∃ h' p, sAsg (eCall gTuple (aCons (eLc (iRng1D (aCons (eCall (loc s__law_digit) (aCons (eVar 0) (aCons (eC (.int 9)) aNil))) aNil)) (gSet 13) tYesD (eCall (loc s__law_digit) (aCons (eVar 0) (aCons (eC (.int 2)) aNil))) [13]) aNil)) (gSet 2) (ER s v1 v2 v3 v4 v5 v6 v7 v8 v9 v10 v11 v12) h = .nx (ER s v1 (some (pth p)) v3 v4 v5 v6 v7 v8 v9 v10 v11 v12) h' ∧
      (∀ c ∈ p, c = 0 ∨ c = 1) ∧ p.length ≤ 8 ∧ St s (n + 40) h' ∧ Kp [s] h h' := by
  obtain ⟨d, h1, ed, d0, d1, st1, k1⟩ := digitL_ok s n 9 (by decide) (by decide) (by omega) h st
  obtain ⟨h2, ds, e5, q, hl, hy, st2, k2⟩ := lc_draw (s := s) (n := d.toNat) (v := 13) (el := eCall (loc s__law_digit) (aCons (eVar 0) (aCons (eC (.int 2)) aNil))) (env := ER s v1 v2 v3 v4 v5 v6 v7 v8 v9 v10 v11 v12) (h := h1) (N := n + 4) (Y := fun d => ∃ c : Nat, d = .int c ∧ (c = 0 ∨ c = 1)) st1 (by simp) (by omega) (fun i h3 M hi hM st3 => by
    obtain ⟨x, h4, ex, y0, y1, st4, k4⟩ := digitL_ok s M 2 (by decide) (by decide) (by omega) h3 st3
    obtain ⟨c, rfl⟩ := Int.eq_ofNat_of_zero_le y0
    exact ⟨.int c, h4, (call_ok (cons_ok rfl (cons_ok rfl rfl))).trans ex, ⟨c, rfl, by omega⟩, st4, k4⟩)
  obtain ⟨p, rfl, hc⟩ := bits_of hy
  have hl' : p.length = d.toNat := by simpa using hl
  refine ⟨h2, p, ?_, hc, by omega, st2.mono (by omega), k1.trans k2⟩
  refine asg_ok (i := 2) ((call_ok (cons_ok (x := .ref h1.length) (h1 := h2) ?_ rfl)).trans ?_) (by simp)
  · exact (eLc_ok (rng1_ok (j := d) (h1 := h1) (cons_ok ((call_ok (cons_ok rfl (cons_ok rfl rfl))).trans ed) rfl) (rng_small (by omega) (by omega)))).trans e5
  · unfold gTuple seqD
    dsimp only
    rw [q]
theorem toP_trows {n : Nat} {h : Hd} {l : List (List Int)} : toP (n + 3) h (.tup (l.map tupI)) = some (.tuple (l.map fun x => .tuple (x.map .int))) := by
  unfold toP
  rw [toP_map (f := tupI) (g := fun x => PyData.tuple (x.map .int)) l fun x _ => toP_tup]
  rfl
theorem sh_trows (l : List (List Int)) : SeqAt.shaped (.tuple (l.map fun x => .tuple (x.map .int))) = true := by
  unfold SeqAt.shaped
  rw [PyData.canLay0, lay_lists, PyData.depth]
  have := dep_lists l
  simp
  omega
theorem eq_trows {h : Hd} {l m : List (List Int)} {k : Bool → Bool} : eqB (.tup (l.map tupI)) (.tup (m.map tupI)) h k = .ok (.bl (k (decide (l = m)))) h := by
  rw [eqB_tup, deep_ok (toP_trows (n := 21)) (toP_trows (n := 21)) (sh_trows l) (sh_trows m), PyData.eqv, eqv_lists]
theorem cut_take' {A : Type} (xs : List A) (m : Nat) (hm : m ≤ xs.length) : Mi.cutD xs none (some (m : Nat)) = xs.take m := by
  unfold Mi.cutD HT.sIx
  dsimp only
  rw [if_neg (by omega), List.drop_zero, Nat.sub_zero, show ((m : Nat) : Int).toNat = m from rfl, Nat.min_eq_left hm]
theorem cut_drop' {A : Type} (xs : List A) (m : Nat) (hm : m ≤ xs.length) : Mi.cutD xs (some (m : Nat)) none = xs.drop m := by
  unfold Mi.cutD HT.sIx
  dsimp only
  rw [if_neg (by omega), show ((m : Nat) : Int).toNat = m from rfl, Nat.min_eq_left hm, List.take_of_length_le]
  rw [List.length_drop]
  exact Nat.le_refl _
theorem cat_tup {a b : List D} {h : Hd} (hl : a.length + b.length ≤ 1000) : gAdd (.tup a) (.tup b) h = .ok (.tup (a ++ b)) h := by
  show (if a.length + b.length ≤ 16777216 then Res.ok (D.tup (a ++ b)) h else .no) = _
  rw [if_pos (by omega)]
theorem sh_row (n : Int) : SeqAt.shaped (.tuple [.str "row", .int n]) = true := by
  unfold SeqAt.shaped
  simp [PyData.canLay0, PyData.canLayAll0, PyData.depth, PyData.depthAll]
  decide +kernel
/-- the refused path -/
theorem odd_told {s n : Nat} {p : List Nat} {v1 v3 v6 v7 v8 v9 v10 v11 v12 : Option D} {h : Hd} {d : D} (hp : ∀ c ∈ p, c = 0 ∨ c = 1) (hl : p.length ≤ 8) (hn : n ≤ p.length) (hd : d ∈ oddL) :
    tOf (eOp gNe (eTold (toldF 3 b__law_told) (eCall (loc s_triple_at) (aCons (eOp gAdd (eOp gAdd (eOp gAdd (eSl (eVar 2) oNone (oSome (eVar 4))) (eTup (aCons (eVar 5) aNil))) (eSl (eVar 2) (oSome (eVar 4)) oNone)) (eTup (aCons (eC .non) aNil))) aNil))) (eTup (aCons (eC (.str "row")) (aCons (eVar 4) aNil)))) (ER s v1 (some (pth p)) v3 (some (.int n)) (some d) v6 v7 v8 v9 v10 v11 v12) h = .ok false h := by
  rw [show pth p = .tup (p.map fun b => D.int (b : Nat)) from rfl]
  generalize hds : p.map (fun b => D.int (b : Nat)) = ds
  have dl : ds.length = p.length := by rw [← hds, List.length_map]
  have c1 : eSl (eVar 2) oNone (oSome (eVar 4)) (ER s v1 (some (.tup ds)) v3 (some (.int n)) (some d) v6 v7 v8 v9 v10 v11 v12) h = .ok (.tup (ds.take n)) h := by
    rw [← cut_take' ds n (by omega)]
    rfl
  have c2 : eSl (eVar 2) (oSome (eVar 4)) oNone (ER s v1 (some (.tup ds)) v3 (some (.int n)) (some d) v6 v7 v8 v9 v10 v11 v12) h = .ok (.tup (ds.drop n)) h := by
    rw [← cut_drop' ds n (by omega)]
    rfl
  have nl := notlam_odd d hd
  have all : eOp gAdd (eOp gAdd (eOp gAdd (eSl (eVar 2) oNone (oSome (eVar 4))) (eTup (aCons (eVar 5) aNil))) (eSl (eVar 2) (oSome (eVar 4)) oNone)) (eTup (aCons (eC .non) aNil)) (ER s v1 (some (.tup ds)) v3 (some (.int n)) (some d) v6 v7 v8 v9 v10 v11 v12) h = .ok (.tup (((ds.take n ++ [d]) ++ ds.drop n) ++ [.non])) h := by
    have l1 : (ds.take n).length ≤ 8 := by rw [List.length_take]; omega
    have l2 : (ds.drop n).length ≤ 8 := by rw [List.length_drop]; omega
    refine (op_ok (x := .tup ((ds.take n ++ [d]) ++ ds.drop n)) (y := .tup [.non]) (h1 := h) (h2 := h) ((op_ok (x := .tup (ds.take n ++ [d])) (y := .tup (ds.drop n)) (h1 := h) (h2 := h) ((op_ok (x := .tup (ds.take n)) (y := .tup [d]) (h1 := h) (h2 := h) c1 (tup_ok (cons_ok (v_ok (i := 5) rfl nl) rfl) (by simp))).trans (cat_tup (by simp; omega))) c2).trans (cat_tup (by simp; omega))) (tup_ok (cons_ok rfl rfl) (by simp))).trans (cat_tup (by simp; omega))
  have pd : purs [d] = true := by
    have : ∀ x ∈ oddL, purs [x] = true := by
      intro x hx
      unfold oddL at hx
      simp only [List.mem_cons, List.not_mem_nil, or_false] at hx
      rcases hx with rfl | rfl | rfl | rfl | rfl | rfl <;> rfl
    exact this d hd
  have papp : ∀ {x y : List D}, purs x = true → purs y = true → purs (x ++ y) = true := by
    intro x
    induction x with
    | nil => intro y _ hy; exact hy
    | cons a x ih =>
      intro y hx hy
      rw [List.cons_append]
      unfold purs at hx ⊢
      obtain ⟨h1, h2⟩ := He.ba hx
      rw [h1, ih h2 hy]
      rfl
  have pints : ∀ l : List Nat, purs (l.map fun b => D.int (b : Nat)) = true := by
    intro l
    induction l with
    | nil => rfl
    | cons a l ih =>
      rw [List.map_cons]
      unfold purs
      rw [ih]
      rfl
  have ptk : purs (ds.take n) = true := by rw [← hds, ← List.map_take]; exact pints _
  have pdr : purs (ds.drop n) = true := by rw [← hds, ← List.map_drop]; exact pints _
  have tn : (ds.take n).length = n := by rw [List.length_take]; omega
  have ex : loc s_triple_at [.tup (((ds.take n ++ [d]) ++ ds.drop n) ++ [.non])] h = .ex ⟨"BadRow", "place", .int (n : Nat)⟩ h := by
    refine at_bad (n := n) (d := d) (papp (papp (papp ptk pd) pdr) rfl) (by simp; omega) (by simp; omega) (fun i hi => ?_) ?_ hd h
    · have hi2 : i < p.length := by omega
      have hx := hp p[i] (List.getElem_mem hi2)
      refine ⟨(p[i] : Nat), by omega, ?_⟩
      rw [List.getD_eq_getElem?_getD, List.append_assoc, List.append_assoc, List.getElem?_append_left (by omega), List.getElem?_take_of_lt hi, ← hds, List.getElem?_map, List.getElem?_eq_getElem hi2]
      rfl
    · rw [List.getD_eq_getElem?_getD, List.append_assoc, List.append_assoc, List.getElem?_append_right (by omega), tn, Nat.sub_self]
      rfl
  have t : eTold (toldF 3 b__law_told) (eCall (loc s_triple_at) (aCons (eOp gAdd (eOp gAdd (eOp gAdd (eSl (eVar 2) oNone (oSome (eVar 4))) (eTup (aCons (eVar 5) aNil))) (eSl (eVar 2) (oSome (eVar 4)) oNone)) (eTup (aCons (eC .non) aNil))) aNil)) (ER s v1 (some (.tup ds)) v3 (some (.int n)) (some d) v6 v7 v8 v9 v10 v11 v12) h = .ok (.tup [.str "row", .int n]) h := told_row ((call_ok (cons_ok all rfl)).trans ex)
  refine tOf_ok ((op_ok (x := .tup [.str "row", .int n]) (y := .tup [.str "row", .int n]) (h1 := h) (h2 := h) t (tup_ok (cons_ok rfl (cons_ok rfl rfl)) (by simp))).trans ?_)
  refine (deep_ok (x := .tup [.str "row", .int n]) (y := .tup [.str "row", .int n]) (k := not) (d := .tuple [.str "row", .int n]) (e := .tuple [.str "row", .int n]) rfl rfl (sh_row n) (sh_row n)).trans ?_
  have : PyData.eqv (.tuple [.str "row", .int n]) (.tuple [.str "row", .int n]) = true := by
    simp [PyData.eqv, PyData.eqvAll]
  rw [this]
  rfl
abbrev rightBody : Fs := (sSeq (sAsg (eCall gTuple (aCons (eLc (iRng1D (aCons (eCall (loc s__law_digit) (aCons (eVar 0) (aCons (eC (.int 9)) aNil))) aNil)) (gSet 13) tYesD (eCall (loc s__law_digit) (aCons (eVar 0) (aCons (eC (.int 2)) aNil))) [13]) aNil)) (gSet 2))
    (sSeq (sAsg (eCall (loc s__law_triple) (aCons (eVar 2) aNil)) (gSet 3))
    (sSeq (sIf (tOrD (tOf (eOp gNe (eCall gRepr (aCons (eCallK (loc s_triple_at) (fun ds ws => gI [0] ds ws) aNil (aCons (eVar 2) aNil)) aNil)) (eCall gRepr (aCons (eVar 3) aNil)))) (tOrD (tOf (eOp gNe (eCall gRepr (aCons (eCallK (loc s_path_of) (fun ds ws => gI [0] ds ws) aNil (aCons (eVar 3) aNil)) aNil)) (eCall gRepr (aCons (eVar 2) aNil)))) (tOf (eOp gIsNot (eCallK (loc s_need_triple) (fun ds ws => gI [0] ds ws) aNil (aCons (eVar 3) aNil)) (eC .non))))) (sRet (eC (.bl false))) sNil)
    (sSeq (sIf (tOrD (tOf (eOp gNe (eCall gRepr (aCons (eCall (loc s_triples_of) (aCons (eOp gIx (eVar 3) (eC (.int 2))) aNil)) aNil)) (eCall gRepr (aCons (eTup (aCons (eVar 3) aNil)) aNil)))) (tOrD (tOf (eOp gIsNot (eCall (loc s_is_markov) (aCons (eOp gIx (eVar 3) (eC (.int 2))) aNil)) (eC (.bl true)))) (tOf (eOp gNe (eCall (loc s_is_markov) (aCons (eOp gAdd (eOp gIx (eVar 3) (eC (.int 2))) (eC (.int 1))) aNil)) (eOp gNe (eCall (loc s_triples_of) (aCons (eOp gAdd (eOp gIx (eVar 3) (eC (.int 2))) (eC (.int 1))) aNil)) (eTup aNil)))))) (sRet (eC (.bl false))) sNil)
    (sSeq (sAsg (eTup (aCons (eCall (loc s__law_digit) (aCons (eVar 0) (aCons (eOp gAdd (eCall gLen (aCons (eVar 2) aNil)) (eC (.int 1))) aNil))) (aCons (eOp gIx (eLst (aCons (eC .non) (aCons (eC (.int 2)) (aCons (eUn gNeg (eC (.int 1))) (aCons (eC (.bl true)) (aCons (eC (.str "0")) (aCons (eTup (aCons (eC (.int 0)) aNil)) aNil))))))) (eCall (loc s__law_digit) (aCons (eVar 0) (aCons (eC (.int 6)) aNil)))) aNil))) (gUnp 2 (gsCons (gSet 4) (gsCons (gSet 5) gsNil))))
    (sSeq (sIf (tOf (eOp gNe (eTold (toldF 3 b__law_told) (eCall (loc s_triple_at) (aCons (eOp gAdd (eOp gAdd (eOp gAdd (eSl (eVar 2) oNone (oSome (eVar 4))) (eTup (aCons (eVar 5) aNil))) (eSl (eVar 2) (oSome (eVar 4)) oNone)) (eTup (aCons (eC .non) aNil))) aNil))) (eTup (aCons (eC (.str "row")) (aCons (eVar 4) aNil))))) (sRet (eC (.bl false))) sNil)
    (sSeq (sAsg (eVar 3) (gUnp 3 (gsCons (gSet 6) (gsCons (gSet 7) (gsCons (gSet 8) gsNil)))))
    (sSeq (sAsg (eLst (aCons (eTup (aCons (eC .non) (aCons (eC .non) aNil))) (aCons (eTup (aCons (eTup (aCons (eVar 6) (aCons (eVar 7) aNil))) (aCons (eC .non) aNil))) (aCons (eTup (aCons (eLst (aCons (eVar 6) (aCons (eVar 7) (aCons (eVar 8) aNil)))) (aCons (eC .non) aNil))) (aCons (eTup (aCons (eTup (aCons (eC (.int 0)) (aCons (eVar 7) (aCons (eVar 8) aNil)))) (aCons (eC .non) aNil))) (aCons (eTup (aCons (eTup (aCons (eC (.bl true)) (aCons (eVar 7) (aCons (eVar 8) aNil)))) (aCons (eC .non) aNil))) aNil)))))) (gSet 9))
    (sSeq (sAsg (eOp gAdd (eVar 9) (eLst (aCons (eTup (aCons (eTup (aCons (eVar 7) (aCons (eVar 6) (aCons (eVar 8) aNil)))) (aCons (eC (.str "order")) aNil))) (aCons (eTup (aCons (eTup (aCons (eVar 8) (aCons (eVar 7) (aCons (eVar 6) aNil)))) (aCons (eC (.str "order")) aNil))) (aCons (eTup (aCons (eTup (aCons (eVar 6) (aCons (eVar 7) (aCons (eOp gAdd (eVar 8) (eC (.int 1))) aNil)))) (aCons (eC (.str "sum")) aNil))) aNil))))) (gSet 9))
    (sFor (iOf (eVar 9)) (gUnp 2 (gsCons (gSet 10) (gsCons (gSet 11) gsNil))) (sFor (iOf (eTup (aCons (eC (.gl "need_triple")) (aCons (eC (.gl "path_of")) aNil)))) (gSet 12) (sIf (tOf (eOp gNe (eCall gRepr (aCons (eTold (toldF 3 b__law_told) (eCallV 12 [("need_triple", (loc s_need_triple)), ("path_of", (loc s_path_of))] (aCons (eVar 10) aNil))) aNil)) (eCall gRepr (aCons (eTup (aCons (eC (.str "triple")) (aCons (eVar 11) aNil))) aNil)))) (sRet (eC (.bl false))) sNil))))))))))))
end Lw

set_option Elab.async false
set_option linter.all false
set_option maxRecDepth 100000
set_option maxHeartbeats 1000000
namespace Lw
open PySem PySem.Spec PyProof.Rows L2 Mi
section
variable {s a b c : Nat} {p : List Nat} {v1 v3 v4 v5 v6 v7 v8 v9 v10 v11 v12 : Option D} {h : Hd}
abbrev EP (s : Nat) (p : List Nat) (a b c : Nat) (v1 v4 v5 v6 v7 v8 v9 v10 v11 v12 : Option D) : En := ER s v1 (some (pth p)) (some (t3 (a, b, c))) v4 v5 v6 v7 v8 v9 v10 v11 v12
theorem ask1 (P : PathOk p a b c) : sIf (tOrD (tOf (eOp gNe (eCall gRepr (aCons (eCallK (loc s_triple_at) (fun ds ws => gI [0] ds ws) aNil (aCons (eVar 2) aNil)) aNil)) (eCall gRepr (aCons (eVar 3) aNil)))) (tOrD (tOf (eOp gNe (eCall gRepr (aCons (eCallK (loc s_path_of) (fun ds ws => gI [0] ds ws) aNil (aCons (eVar 3) aNil)) aNil)) (eCall gRepr (aCons (eVar 2) aNil)))) (tOf (eOp gIsNot (eCallK (loc s_need_triple) (fun ds ws => gI [0] ds ws) aNil (aCons (eVar 3) aNil)) (eC .non))))) (sRet (eC (.bl false))) sNil (EP s p a b c v1 v4 v5 v6 v7 v8 v9 v10 v11 v12) h = .nx (EP s p a b c v1 v4 v5 v6 v7 v8 v9 v10 v11 v12) h := by
  obtain ⟨sp, rp⟩ := P.repP
  obtain ⟨st, rt⟩ := P.repT
  refine if_no (or_no (h1 := h) (neS_same (s := st) (h1 := h) ((call_ok (cons_ok ((callK_ok rfl (cons_ok rfl rfl)).trans (P.tri h)) rfl)).trans (rt h)) ((call_ok (cons_ok rfl rfl)).trans (rt h))) (or_no (h1 := h) (neS_same (s := sp) (h1 := h) ((call_ok (cons_ok ((callK_ok rfl (cons_ok rfl rfl)).trans (P.path h)) rfl)).trans (rp h)) ((call_ok (cons_ok rfl rfl)).trans (rp h))) (tOf_ok ((op_ok (x := .non) (y := .non) (h1 := h) ((callK_ok rfl (cons_ok rfl rfl)).trans (P.need h)) rfl).trans rfl))))
theorem third (h : Hd) : eOp gIx (eVar 3) (eC (.int 2)) (EP s p a b c v1 v4 v5 v6 v7 v8 v9 v10 v11 v12) h = .ok (.int c) h := (op_ok (x := t3 (a, b, c)) (y := .int 2) rfl rfl).trans rfl
theorem third1 (h : Hd) : eOp gAdd (eOp gIx (eVar 3) (eC (.int 2))) (eC (.int 1)) (EP s p a b c v1 v4 v5 v6 v7 v8 v9 v10 v11 v12) h = .ok (.int ((c + 1 : Nat) : Int)) h := addN (j := 1) (third h) rfl
theorem ask2 (P : PathOk p a b c) : sIf (tOrD (tOf (eOp gNe (eCall gRepr (aCons (eCall (loc s_triples_of) (aCons (eOp gIx (eVar 3) (eC (.int 2))) aNil)) aNil)) (eCall gRepr (aCons (eTup (aCons (eVar 3) aNil)) aNil)))) (tOrD (tOf (eOp gIsNot (eCall (loc s_is_markov) (aCons (eOp gIx (eVar 3) (eC (.int 2))) aNil)) (eC (.bl true)))) (tOf (eOp gNe (eCall (loc s_is_markov) (aCons (eOp gAdd (eOp gIx (eVar 3) (eC (.int 2))) (eC (.int 1))) aNil)) (eOp gNe (eCall (loc s_triples_of) (aCons (eOp gAdd (eOp gIx (eVar 3) (eC (.int 2))) (eC (.int 1))) aNil)) (eTup aNil)))))) (sRet (eC (.bl false))) sNil (EP s p a b c v1 v4 v5 v6 v7 v8 v9 v10 v11 v12) h = .nx (EP s p a b c v1 v4 v5 v6 v7 v8 v9 v10 v11 v12) h := by
  obtain ⟨so, ro⟩ := P.repO
  obtain ⟨l, n1, n2⟩ := P.nxt
  have q1 : eOp gNe (eCall (loc s_triples_of) (aCons (eOp gAdd (eOp gIx (eVar 3) (eC (.int 2))) (eC (.int 1))) aNil)) (eTup aNil) (EP s p a b c v1 v4 v5 v6 v7 v8 v9 v10 v11 v12) h = .ok (.bl (!l.isEmpty)) h := by
    refine (op_ok (x := .tup (l.map tupI)) (y := .tup (([] : List (List Int)).map tupI)) (h1 := h) (h2 := h) ((call_ok (cons_ok (third1 h) rfl)).trans (n1 h)) (tup_ok rfl (by simp))).trans ((eq_trows (l := l) (m := [])).trans ?_)
    cases l <;> rfl
  have q2 : tOf (eOp gNe (eCall (loc s_is_markov) (aCons (eOp gAdd (eOp gIx (eVar 3) (eC (.int 2))) (eC (.int 1))) aNil)) (eOp gNe (eCall (loc s_triples_of) (aCons (eOp gAdd (eOp gIx (eVar 3) (eC (.int 2))) (eC (.int 1))) aNil)) (eTup aNil))) (EP s p a b c v1 v4 v5 v6 v7 v8 v9 v10 v11 v12) h = .ok false h := by
    refine tOf_ok ((op_ok (x := .bl (!l.isEmpty)) (y := .bl (!l.isEmpty)) (h1 := h) ((call_ok (cons_ok (third1 h) rfl)).trans (n2 h)) q1).trans ?_)
    show Res.ok (D.bl (!decide ((!l.isEmpty) = (!l.isEmpty)))) h = _
    rw [decide_eq_true rfl]
    rfl
  exact if_no (or_no (h1 := h) (neS_same (s := so) (h1 := h) ((call_ok (cons_ok ((call_ok (cons_ok (third h) rfl)).trans (P.of h)) rfl)).trans (ro h)) ((call_ok (cons_ok (tup_ok (cons_ok rfl rfl) (by simp)) rfl)).trans (ro h))) (or_no (h1 := h) (tOf_ok ((op_ok (x := .bl true) (y := .bl true) (h1 := h) ((call_ok (cons_ok (third h) rfl)).trans (P.mkv h)) rfl).trans rfl)) q2))
theorem odd_at : ∀ j : Nat, j < 6 → ∃ d, ixSeq oddL (.int j) = (fun h => .ok d h) ∧ d ∈ oddL := by
  intro j hj
  have : j = 0 ∨ j = 1 ∨ j = 2 ∨ j = 3 ∨ j = 4 ∨ j = 5 := by omega
  rcases this with rfl | rfl | rfl | rfl | rfl | rfl
  · exact ⟨.non, rfl, by simp [oddL]⟩
  · exact ⟨.int 2, rfl, by simp [oddL]⟩
  · exact ⟨.int (-1), rfl, by simp [oddL]⟩
  · exact ⟨.bl true, rfl, by simp [oddL]⟩
  · exact ⟨.str "0", rfl, by simp [oddL]⟩
  · exact ⟨.tup [.int 0], rfl, by simp [oddL]⟩
theorem draw_odd {n : Int} (st : St s n h) (hn : n ≤ 80000) (hl : p.length ≤ 8) : ∃ (m : Nat) (d : D) (h' : Hd), sAsg (eTup (aCons (eCall (loc s__law_digit) (aCons (eVar 0) (aCons (eOp gAdd (eCall gLen (aCons (eVar 2) aNil)) (eC (.int 1))) aNil))) (aCons (eOp gIx (eLst (aCons (eC .non) (aCons (eC (.int 2)) (aCons (eUn gNeg (eC (.int 1))) (aCons (eC (.bl true)) (aCons (eC (.str "0")) (aCons (eTup (aCons (eC (.int 0)) aNil)) aNil))))))) (eCall (loc s__law_digit) (aCons (eVar 0) (aCons (eC (.int 6)) aNil)))) aNil))) (gUnp 2 (gsCons (gSet 4) (gsCons (gSet 5) gsNil))) (EP s p a b c v1 v4 v5 v6 v7 v8 v9 v10 v11 v12) h = .nx (EP s p a b c v1 (some (.int m)) (some d) v6 v7 v8 v9 v10 v11 v12) h' ∧ m ≤ p.length ∧ d ∈ oddL ∧ St s (n + 8) h' ∧ Kp [s] h h' := by
  obtain ⟨m, h1, e1, m0, m1, st1, k1⟩ := digitL_ok s n ((p.length : Int) + 1) (by omega) (by omega) (by omega) h st
  obtain ⟨j, h2, e2, j0, j1, st2, k2⟩ := digitL_ok s (n + 4) 6 (by decide) (by decide) (by omega) (h1 ++ [.lst oddL]) st1.app
  obtain ⟨m, rfl⟩ := Int.eq_ofNat_of_zero_le m0
  obtain ⟨j, rfl⟩ := Int.eq_ofNat_of_zero_le j0
  obtain ⟨d, ed, hd⟩ := odd_at j (by omega)
  have hs : s < h1.length := st1.lt
  have q : h2[h1.length]? = some (.lst oddL) := k2.at_ _ _ (by simp; omega) at_new
  refine ⟨m, d, h2, ?_, by omega, hd, st2.mono (by omega), k1.trans (Kp.app.trans k2)⟩
  have gl : eOp gAdd (eCall gLen (aCons (eVar 2) aNil)) (eC (.int 1)) (EP s p a b c v1 v4 v5 v6 v7 v8 v9 v10 v11 v12) h = .ok (.int ((p.length : Int) + 1)) h := by
    refine (op_ok (x := .int (p.length : Nat)) (y := .int 1) (h1 := h) (h2 := h) ((call_ok (ds := [pth p]) (h1 := h) (cons_ok rfl rfl)).trans ?_) rfl).trans rfl
    show Res.ok (D.int ((p.map fun b => D.int (b : Nat)).length : Nat)) h = _
    rw [List.length_map]
  have gx : eOp gIx (eLst (aCons (eC .non) (aCons (eC (.int 2)) (aCons (eUn gNeg (eC (.int 1))) (aCons (eC (.bl true)) (aCons (eC (.str "0")) (aCons (eTup (aCons (eC (.int 0)) aNil)) aNil))))))) (eCall (loc s__law_digit) (aCons (eVar 0) (aCons (eC (.int 6)) aNil))) (EP s p a b c v1 v4 v5 v6 v7 v8 v9 v10 v11 v12) h1 = .ok d h2 := by
    refine (op_ok (x := .ref h1.length) (y := .int j) (h1 := h1 ++ [.lst oddL]) (h2 := h2) (lst_ok (xs := oddL) rfl (by simp [oddL])) ((call_ok (cons_ok rfl (cons_ok rfl rfl))).trans e2)).trans ?_
    unfold gIx
    dsimp only
    rw [q]
    dsimp only
    rw [ed]
  have tp := tup_ok (fa := (aCons (eCall (loc s__law_digit) (aCons (eVar 0) (aCons (eOp gAdd (eCall gLen (aCons (eVar 2) aNil)) (eC (.int 1))) aNil))) (aCons (eOp gIx (eLst (aCons (eC .non) (aCons (eC (.int 2)) (aCons (eUn gNeg (eC (.int 1))) (aCons (eC (.bl true)) (aCons (eC (.str "0")) (aCons (eTup (aCons (eC (.int 0)) aNil)) aNil))))))) (eCall (loc s__law_digit) (aCons (eVar 0) (aCons (eC (.int 6)) aNil)))) aNil))) (env := EP s p a b c v1 v4 v5 v6 v7 v8 v9 v10 v11 v12) (h := h) (h1 := h2) (xs := [.int m, d]) (cons_ok ((call_ok (cons_ok rfl (cons_ok gl rfl))).trans e1) (cons_ok gx rfl)) (by simp)
  show (match eTup _ (EP s p a b c v1 v4 v5 v6 v7 v8 v9 v10 v11 v12) h with
    | .ok d h1 => (match gUnp 2 (gsCons (gSet 4) (gsCons (gSet 5) gsNil)) d (EP s p a b c v1 v4 v5 v6 v7 v8 v9 v10 v11 v12) h1 with
      | some (env1, h1) => SRes.nx env1 h1
      | none => .no)
    | .ex e h1 => SRes.ex e _ h1
    | .no => .no) = _
  rw [tp]
  rfl
end
theorem turn_ok {s : Nat} {n : Int} {h : Hd} (st : St s n h) (hn : n ≤ 70000) {v1 v2 v3 v4 v5 v6 v7 v8 v9 v10 v11 v12 : Option D} : ∃ w2 w3 w4 w5 w6 w7 w8 w9 w10 w11 w12 h', rightBody (ER s v1 v2 v3 v4 v5 v6 v7 v8 v9 v10 v11 v12) h = .nx (ER s v1 w2 w3 w4 w5 w6 w7 w8 w9 w10 w11 w12) h' ∧ St s (n + 100) h' ∧ Kp [s] h h' := by
  obtain ⟨h1, p, e1, hp, hl, st1, k1⟩ := path_draw (v1 := v1) (v2 := v2) (v3 := v3) (v4 := v4) (v5 := v5) (v6 := v6) (v7 := v7) (v8 := v8) (v9 := v9) (v10 := v10) (v11 := v11) (v12 := v12) st (by omega)
  obtain ⟨a, b, c, P⟩ := path_ok hp hl
  obtain ⟨m, d, h2, e2, hm, hd, st2, k2⟩ := draw_odd (a := a) (b := b) (c := c) (p := p) (v1 := v1) (v4 := v4) (v5 := v5) (v6 := v6) (v7 := v7) (v8 := v8) (v9 := v9) (v10 := v10) (v11 := v11) (v12 := v12) st1 (by omega) hl
  obtain ⟨u9, u10, u11, u12, h3, e3, k3⟩ := bad_all (s := s) (v1 := v1) (v2 := some (pth p)) (v3 := some (t3 (a, b, c))) (v4 := some (.int m)) (v5 := some d) (w9 := v9) (w10 := v10) (w11 := v11) (w12 := v12) (h := h2) P
  refine ⟨some (pth p), some (t3 (a, b, c)), some (.int m), some d, some (.int a), some (.int b), some (.int c), u9, u10, u11, u12, h3, ?_, (st2.keep k3).mono (by omega), k1.trans (k2.trans k3.any)⟩
  have a1 : sAsg (eCall (loc s__law_triple) (aCons (eVar 2) aNil)) (gSet 3) (ER s v1 (some (pth p)) v3 v4 v5 v6 v7 v8 v9 v10 v11 v12) h1 = .nx (EP s p a b c v1 v4 v5 v6 v7 v8 v9 v10 v11 v12) h1 := asg_ok (i := 3) ((call_ok (cons_ok rfl rfl)).trans (P.law h1)) (by simp)
  have a2 : sAsg (eVar 3) (gUnp 3 (gsCons (gSet 6) (gsCons (gSet 7) (gsCons (gSet 8) gsNil)))) (EP s p a b c v1 (some (.int m)) (some d) v6 v7 v8 v9 v10 v11 v12) h2 = .nx (EP s p a b c v1 (some (.int m)) (some d) (some (.int a)) (some (.int b)) (some (.int c)) v9 v10 v11 v12) h2 := rfl
  exact (seq_nx e1).trans ((seq_nx a1).trans ((seq_nx (ask1 P)).trans ((seq_nx (ask2 P)).trans ((seq_nx e2).trans ((seq_nx (if_no (odd_told hp hl hm hd))).trans ((seq_nx a2).trans e3))))))
theorem right_ok {s : Nat} {h : Hd} (st : St s 9000 h) : ∃ h', loc s__law_right [.ref s] h = .ok (.bl true) h' ∧ Kp [s] h h' := by
  have key := for_inv (src := rngS 0 4 1) (tg := gSet 1) (body := rightBody) (env := ER s none none none none none none none none none none none none) (h := h) 4 (fun i => .int (0 + (i : Nat) * 1))
    (fun i env h1 => (∃ v1 v2 v3 v4 v5 v6 v7 v8 v9 v10 v11 v12, env = ER s v1 v2 v3 v4 v5 v6 v7 v8 v9 v10 v11 v12) ∧ St s (9000 + 100 * i) h1 ∧ Kp [s] h h1) ⟨⟨_, _, _, _, _, _, _, _, _, _, _, _, rfl⟩, st.mono (by omega), Kp.refl⟩ (by
      rintro i env h1 hi ⟨⟨v1, v2, v3, v4, v5, v6, v7, v8, v9, v10, v11, v12, rfl⟩, st1, k1⟩
      obtain ⟨w2, w3, w4, w5, w6, w7, w8, w9, w10, w11, w12, h2, e, st2, k2⟩ := turn_ok (v1 := some (.int (0 + (i : Nat) * 1))) (v2 := v2) (v3 := v3) (v4 := v4) (v5 := v5) (v6 := v6) (v7 := v7) (v8 := v8) (v9 := v9) (v10 := v10) (v11 := v11) (v12 := v12) st1 (by omega)
      exact ⟨rng_item hi, _, h2, step_set (by simp) e, ⟨_, _, _, _, _, _, _, _, _, _, _, _, rfl⟩, st2.mono (by omega), k1.trans k2⟩) (by
      rintro env h1 _
      exact rng_stop) (by rw [most_eq]; decide)
  obtain ⟨env', h', e, _, _, k⟩ := key
  refine ⟨h', ?_, k⟩
  rw [loc_plain rfl]
  exact run_rt [some (.ref s), none, none, none, none, none, none, none, none, none, none, none, none, none] ((seq_nx ((sFor_ok (tg := gSet 1) (body := rightBody) (rng1_ok (j := 4) (h1 := h) rfl (rng_small (by decide) (by decide)))).trans e)).trans (ret_ok rfl))
end Lw

set_option Elab.async false
set_option linter.all false
set_option maxRecDepth 100000
set_option maxHeartbeats 1000000
namespace Lw
open PySem PySem.Spec PyProof.Rows L2 Mi
abbrev EL (v1 v2 v3 v4 v5 v6 v7 v8 v9 v10 v11 v12 v13 v14 v15 : Option D) : En := [some (.ref 0), v1, v2, v3, v4, v5, v6, v7, v8, v9, v10, v11, v12, v13, v14, v15, none]
abbrev cellBody : Fs := sIf (tNotD (tOf (eCall (loc s__law_right) (aCons (eCall (loc s__law_draw) (aCons (eVar 2) (aCons (eVar 1) aNil))) aNil)))) (sRet (eC (.bl false))) sNil
theorem law_0 (ns : List Int) : ∃ v1 v2 h', b_law_0 (EL none none none none none none none none none none none none none none none) [.fro (ns.map .int)] = .nx (EL v1 v2 none none none none none none none none none none none none none) h' ∧ h'[0]? = some (.fro (ns.map .int)) := by
  obtain ⟨env', h', e, ⟨v1, v2, rfl⟩, z⟩ := head_loop2 (ns := ns) (m := 3) (M := 3) (env := EL none none none none none none none none none none none none none none none) (tg := gUnp 2 (gsCons (gSet 1) (gsCons (gSet 2) gsNil))) (body := cellBody)
    (fun env => ∃ v1 v2, env = EL v1 v2 none none none none none none none none none none none none none) rfl (by decide) (fun h => rfl) ⟨_, _, rfl⟩ (by
      rintro i cell env h hi ⟨v1, v2, rfl⟩
      obtain ⟨h1, e1, st1, k1⟩ := drawL_ok cell i (by omega) h
      obtain ⟨h2, e2, k2⟩ := right_ok st1
      refine ⟨_, h2, step2 (env' := EL (some (.int (i : Nat))) (some (.int cell)) none none none none none none none none none none none none none) (by simp) (by simp) (if_no (not_ok (b := true) (tOf_ok ((call_ok (cons_ok ((call_ok (cons_ok rfl (cons_ok rfl rfl))).trans e1) rfl)).trans e2)))), ⟨_, _, rfl⟩, Kp.new k1 k2 (Nat.le_refl _)⟩)
  exact ⟨v1, v2, h', e, z⟩
theorem law_1 {ns : List Int} {h : Hd} {v1 v2 : Option D} (z : h[0]? = some (.fro (ns.map .int))) : ∃ s h', b_law_1 (EL v1 v2 none none none none none none none none none none none none none) h = .nx (EL v1 v2 (some (.ref s)) none none none none none none none none none none none none) h' ∧ St s 9000 h' := by
  obtain ⟨h1, e1, st1, k1⟩ := drawL_ok (ns.sum + (ns.length : Nat)) 5 (by omega) h
  refine ⟨h.length, h1, asg_ok (i := 3) ((call_ok (ds := [.int (ns.sum + (ns.length : Nat)), .int 5]) (h1 := h) (cons_ok ((op_ok (x := .int ns.sum) (y := .int (ns.length : Nat)) (h1 := h) (h2 := h) ((call_ok (ds := [.ref 0]) (h1 := h) (cons_ok rfl rfl)).trans ?_) ((call_ok (ds := [.ref 0]) (h1 := h) (cons_ok rfl rfl)).trans ?_)).trans rfl) (cons_ok rfl rfl))).trans e1) (by simp), st1⟩
  · unfold gSum seqD
    dsimp only
    rw [z]
    dsimp only
    rw [Mi.ints_map]
  · unfold gLen seqD
    dsimp only
    rw [z]
    dsimp only
    rw [List.length_map]
theorem law_2 {s : Nat} {h : Hd} {v1 v2 : Option D} (st : St s 9000 h) : ∃ M h', b_law_2 (EL v1 v2 (some (.ref s)) none none none none none none none none none none none none) h = .nx (EL v1 v2 (some (.ref s)) (some (.int (M : Nat))) none none none none none none none none none none none) h' ∧ 1 ≤ M ∧ M ≤ 120 := by
  obtain ⟨d, h1, e1, d0, d1, st1, k1⟩ := digitL_ok s 9000 120 (by decide) (by decide) (by decide) h st
  obtain ⟨d, rfl⟩ := Int.eq_ofNat_of_zero_le d0
  refine ⟨1 + d, h1, asg_ok (i := 4) (addN (i := 1) (j := d) rfl ((call_ok (cons_ok rfl (cons_ok rfl rfl))).trans e1)) (by simp), by omega, by omega⟩
structure MostOk (M : Nat) (O : List T3) : Prop where
  m1 : 1 ≤ M
  m2 : M ≤ 120
  own : ownN M = some O
  tri : ∀ h, loc s__law_tried [.int M] h = .ok (.ref h.length) (h ++ [.lst ((srt O).map tupI)])
  rep : ∃ s, ∀ h, gRepr [.tup ((srt O).map tupI)] h = .ok (.str s) h
  of : ∀ n, 1 ≤ n → n ≤ M → (n % 7 = 1 ∨ n = M) → ∀ h, loc s_triples_of [.int n] h = .ok (.tup ((pick n (srt O)).map tupI)) h
  mkv : ∀ n, 1 ≤ n → n ≤ M → (n % 7 = 1 ∨ n = M) → ∀ h, loc s_is_markov [.int n] h = .ok (.bl (!(pick n (srt O)).isEmpty)) h
  repN : ∀ n, 1 ≤ n → n ≤ M → (n % 7 = 1 ∨ n = M) → ∃ s, ∀ h, gRepr [.tup ((pick n (srt O)).map tupI)] h = .ok (.str s) h
theorem chkT_at {m : Nat} (h1 : 1 ≤ m) (h2 : m ≤ 120) : ∃ L O, triedN m = some L ∧ ownN m = some O ∧ srt O = srt L ∧ rep0 (.tup ((srt O).map tupI)) = true ∧ rep0 (.tup ((pick m (srt O)).map tupI)) = true ∧ ∀ n, 1 ≤ n → n ≤ m → (n % 7 = 1 ∨ n = m) → ∃ O', ownN n = some O' ∧ pick n (srt O) = pick n (srt O') := by
  obtain ⟨L, e, q⟩ := goT_ok tried_chk (k := 0) (L := []) rfl m (by omega) (by omega)
  unfold chkT at q
  cases eo : ownN m with
  | none => rw [eo] at q; cases q
  | some O =>
    rw [eo] at q
    obtain ⟨q1, q⟩ := He.ba q
    obtain ⟨q2, q⟩ := He.ba q
    obtain ⟨q3, q4⟩ := He.ba q
    refine ⟨L, O, e, rfl, eqRR_eq q1, q2, q3, fun n n1 n2 hn => ?_⟩
    have r := List.all_eq_true.mp q4 (n - 1) (List.mem_range.mpr (by omega))
    rw [show n - 1 + 1 = n by omega] at r
    have c : (Nat.beq (n % 7) 1 || Nat.beq n m) = true := by
      rw [beq_dec', beq_dec', Bool.or_eq_true, decide_eq_true_eq, decide_eq_true_eq]
      exact hn
    rw [c, cond_true] at r
    cases en : ownN n with
    | none => rw [en] at r; cases r
    | some O' =>
      rw [en] at r
      exact ⟨O', rfl, eqRR_eq r⟩
theorem le_big {n : Nat} (h : n ≤ 1000000) : n ≤ bigM := Nat.le_trans h (by decide)
theorem most_ok {M : Nat} (h1 : 1 ≤ M) (h2 : M ≤ 120) : ∃ O, MostOk M O := by
  obtain ⟨L, O, e1, e2, e3, r1, r2, all⟩ := chkT_at h1 h2
  refine ⟨O, h1, h2, e2, fun h => by rw [e3]; exact tried_ok e1 (by omega) h, rep0_ok r1, fun n n1 n2 hn h => ?_, fun n n1 n2 hn h => ?_, fun n n1 n2 hn => ?_⟩
  · obtain ⟨O', e4, e5⟩ := all n n1 n2 hn
    rw [e5]
    exact of_ok e4 n1 (le_big (by omega)) h
  · obtain ⟨O', e4, e5⟩ := all n n1 n2 hn
    rw [e5, is_markov_ok e4 n1 (le_big (by omega)) h, any_pick]
  · obtain ⟨O', e4, e5⟩ := all n n1 n2 hn
    obtain ⟨L2, O2, e6, e7, e8, r3, r4, _⟩ := chkT_at n1 (show n ≤ 120 by omega)
    rw [e7] at e4
    cases e4
    rw [e5]
    exact rep0_ok r4
theorem rep_bl (b : Bool) : ∃ s, ∀ h, gRepr [.bl b] h = .ok (.str s) h := by
  cases b with
  | true => exact rep0_ok (by decide +kernel)
  | false => exact rep0_ok (by decide +kernel)
theorem law_4 {M : Nat} {O : List T3} {h : Hd} {v1 v2 v3 : Option D} {r : Nat} (m : MostOk M O) (q : h[r]? = some (.lst ((srt O).map tupI))) : b_law_4 (EL v1 v2 v3 (some (.int M)) (some (.ref r)) none none none none none none none none none none) h = .nx (EL v1 v2 v3 (some (.int M)) (some (.ref r)) none none none none none none none none none none) h := by
  obtain ⟨s, rp⟩ := m.rep
  have := m.m2
  refine if_no (neS_same (s := s) (h1 := h) ((call_ok (cons_ok ((callK_ok rfl (cons_ok rfl rfl)).trans (up_to_ok m.own m.m1 (le_big (by omega)) h)) rfl)).trans (rp h)) ((call_ok (ds := [.tup ((srt O).map tupI)]) (h1 := h) (cons_ok ((call_ok (ds := [.ref r]) (h1 := h) (cons_ok rfl rfl)).trans ?_) rfl)).trans (rp h)))
  unfold gTuple seqD
  dsimp only
  rw [q]
abbrev numBody : Fs := sIf (tOrD (tOf (eOp gEq (eOp gMod (eVar 6) (eC (.int 7))) (eC (.int 1)))) (tOf (eOp gEq (eVar 6) (eVar 4)))) (sSeq (sAsg (eLc (iOf (eVar 5)) (gSet 16) (tOf (eOp gEq (eOp gIx (eVar 16) (eC (.int 2))) (eVar 6))) (eVar 16) [16]) (gSet 7))
    (sIf (tOrD (tOf (eOp gNe (eCall gRepr (aCons (eCallK (loc s_triples_of) (fun ds ws => gI [0] ds ws) aNil (aCons (eVar 6) aNil)) aNil)) (eCall gRepr (aCons (eCall gTuple (aCons (eVar 7) aNil)) aNil)))) (tOf (eOp gNe (eCall gRepr (aCons (eCallK (loc s_is_markov) (fun ds ws => gI [0] ds ws) aNil (aCons (eVar 6) aNil)) aNil)) (eCall gRepr (aCons (eOp gNe (eVar 7) (eLst aNil)) aNil))))) (sRet (eC (.bl false))) sNil)) sNil
theorem num_turn {M n : Nat} {O : List T3} {h : Hd} {v1 v2 v3 v7 : Option D} {r : Nat} (m : MostOk M O) (q : h[r]? = some (.lst ((srt O).map tupI))) (n1 : 1 ≤ n) (n2 : n ≤ M) : ∃ w7 h', numBody (EL v1 v2 v3 (some (.int M)) (some (.ref r)) (some (.int n)) v7 none none none none none none none none) h = .nx (EL v1 v2 v3 (some (.int M)) (some (.ref r)) (some (.int n)) w7 none none none none none none none none) h' ∧ Kp [] h h' := by
  have m2 := m.m2
  have c : tOrD (tOf (eOp gEq (eOp gMod (eVar 6) (eC (.int 7))) (eC (.int 1)))) (tOf (eOp gEq (eVar 6) (eVar 4))) (EL v1 v2 v3 (some (.int M)) (some (.ref r)) (some (.int n)) v7 none none none none none none none none) h = .ok (decide (n % 7 = 1) || decide (n = M)) h :=
    or_ok (tOf_ok (eqN (j := 1) (modN (j := 7) rfl rfl (by decide)) rfl)) (tOf_ok (eqN rfl rfl))
  by_cases hn : n % 7 = 1 ∨ n = M
  · have c1 : (decide (n % 7 = 1) || decide (n = M)) = true := by rw [Bool.or_eq_true, decide_eq_true_eq, decide_eq_true_eq]; exact hn
    rw [c1] at c
    obtain ⟨h3, e3, k3, q3⟩ := lc_ref (tg := gSet 16) (tst := tOf (eOp gEq (eOp gIx (eVar 16) (eC (.int 2))) (eVar 6))) (el := eVar 16) (env := EL v1 v2 v3 (some (.int M)) (some (.ref r)) (some (.int n)) v7 none none none none none none none none) (h := h) (a := r) (xs := (srt O).map tupI) (gThird n) q (by
      intro d hd hh _
      obtain ⟨w, hw, rfl⟩ := List.mem_map.mp hd
      obtain ⟨x, _, rfl⟩ := srt_mem hw
      exact ⟨hh, (turn_if (y := t3 x) (b := decide ((x.2.2 : Int) = n)) (by simp) (tOf_ok ((op_ok (x := .int x.2.2) (y := .int n) (h1 := hh) (h2 := hh) ((op_ok (x := t3 x) (y := .int 2) rfl rfl).trans rfl) rfl).trans rfl)) rfl).trans rfl, Kp.refl⟩) (by
        rw [List.length_map, srt_len m.own]
        have := own_len m.own
        omega)
    rw [flat_filter (p := fun r => decide (thr r = n)) (fun w hw => by obtain ⟨x, _, rfl⟩ := srt_mem hw; rfl)] at q3
    have s1 : sAsg (eLc (iOf (eVar 5)) (gSet 16) (tOf (eOp gEq (eOp gIx (eVar 16) (eC (.int 2))) (eVar 6))) (eVar 16) [16]) (gSet 7) (EL v1 v2 v3 (some (.int M)) (some (.ref r)) (some (.int n)) v7 none none none none none none none none) h = .nx (EL v1 v2 v3 (some (.int M)) (some (.ref r)) (some (.int n)) (some (.ref h.length)) none none none none none none none none) h3 := asg_ok (i := 7) ((eLc_ok (iOf_ref (a := r) (h1 := h) rfl q)).trans e3) (by simp)
    obtain ⟨s, rp⟩ := m.repN n n1 n2 hn
    obtain ⟨sb, rb⟩ := rep_bl (!(pick n (srt O)).isEmpty)
    have tp : eCall gTuple (aCons (eVar 7) aNil) (EL v1 v2 v3 (some (.int M)) (some (.ref r)) (some (.int n)) (some (.ref h.length)) none none none none none none none none) h3 = .ok (.tup ((pick n (srt O)).map tupI)) h3 := by
      refine (call_ok (ds := [.ref h.length]) (h1 := h3) (cons_ok rfl rfl)).trans ?_
      unfold gTuple seqD
      dsimp only
      rw [q3]
    have ne : eOp gNe (eVar 7) (eLst aNil) (EL v1 v2 v3 (some (.int M)) (some (.ref r)) (some (.int n)) (some (.ref h.length)) none none none none none none none none) h3 = .ok (.bl (!(pick n (srt O)).isEmpty)) (h3 ++ [.lst []]) := by
      refine (op_ok (x := .ref h.length) (y := .ref h3.length) (h1 := h3) (h2 := h3 ++ [.lst []]) rfl nil_ok).trans ?_
      refine (eq_rows (l := pick n (srt O)) (m := []) (app_old q3) at_new).trans ?_
      cases pick n (srt O) <;> rfl
    refine ⟨some (.ref h.length), h3 ++ [.lst []], (if_yes c).trans ((seq_nx s1).trans (if_no (or_no (h1 := h3) (neS_same (s := s) (h1 := h3) ((call_ok (cons_ok ((callK_ok rfl (cons_ok rfl rfl)).trans (m.of n n1 n2 hn h3)) rfl)).trans (rp h3)) ((call_ok (cons_ok tp rfl)).trans (rp h3))) (neS_same (s := sb) (h1 := h3) ((call_ok (cons_ok ((callK_ok rfl (cons_ok rfl rfl)).trans (m.mkv n n1 n2 hn h3)) rfl)).trans (rb h3)) ((call_ok (cons_ok ne rfl)).trans (rb _)))))), k3.trans Kp.app⟩
  · have c1 : (decide (n % 7 = 1) || decide (n = M)) = false := by
      rw [Bool.or_eq_false_iff, decide_eq_false_iff_not, decide_eq_false_iff_not]
      exact ⟨fun z => hn (.inl z), fun z => hn (.inr z)⟩
    rw [c1] at c
    exact ⟨v7, h, if_no c, Kp.refl⟩
theorem law_5 {M : Nat} {O : List T3} {h : Hd} {v1 v2 v3 : Option D} {r : Nat} (m : MostOk M O) (q : h[r]? = some (.lst ((srt O).map tupI))) : ∃ w6 w7 h', b_law_5 (EL v1 v2 v3 (some (.int M)) (some (.ref r)) none none none none none none none none none none) h = .nx (EL v1 v2 v3 (some (.int M)) (some (.ref r)) w6 w7 none none none none none none none none) h' := by
  have m2 := m.m2
  have key := for_inv (src := rngS 1 M 1) (tg := gSet 6) (body := numBody) (env := EL v1 v2 v3 (some (.int M)) (some (.ref r)) none none none none none none none none none none) (h := h) M (fun i => .int (1 + (i : Nat) * 1))
    (fun i env h1 => (∃ w6 w7, env = EL v1 v2 v3 (some (.int M)) (some (.ref r)) w6 w7 none none none none none none none none) ∧ Kp [] h h1) ⟨⟨_, _, rfl⟩, Kp.refl⟩ (by
      rintro i env h1 hi ⟨⟨w6, w7, rfl⟩, k1⟩
      obtain ⟨u7, h2, e2, k2⟩ := num_turn (n := i + 1) (v1 := v1) (v2 := v2) (v3 := v3) (v7 := w7) m (k1.at_ _ _ (by simp) q) (by omega) (by omega)
      refine ⟨rng_item hi, EL v1 v2 v3 (some (.int M)) (some (.ref r)) (some (.int ((i + 1 : Nat) : Int))) u7 none none none none none none none none, h2, ?_, ⟨_, _, rfl⟩, k1.trans k2⟩
      rw [nat_int]
      exact step_set (by simp) e2) (by
      rintro env h1 _
      exact rng_stop) (by rw [most_eq]; omega)
  obtain ⟨env', h', e, ⟨w6, w7, rfl⟩, _⟩ := key
  have this := rng2_ok (env := EL v1 v2 v3 (some (.int M)) (some (.ref r)) none none none none none none none none none none) (h := h) (h1 := h) (fa := aCons (eC (.int 1)) (aCons (eOp gAdd (eVar 4) (eC (.int 1))) aNil)) (i := 1) (j := (M : Int) + 1) (cons_ok rfl (cons_ok ((op_ok (x := .int M) (y := .int 1) rfl rfl).trans rfl) rfl)) (rng_small (by decide) (by decide)) (rng_small (by omega) (by omega))
  rw [show ((M : Int) + 1 - 1).toNat = M by omega] at this
  exact ⟨w6, w7, h', (sFor_ok (tg := gSet 6) (body := numBody) this).trans e⟩
end Lw

set_option Elab.async false
set_option linter.all false
set_option maxRecDepth 100000
set_option maxHeartbeats 1000000
namespace Lw
open PySem PySem.Spec PyProof.Rows L2 Mi
/-! ### what the kernel looks at -/
def nums : List Int := [1, 2, 5, 13, 29, 34, 89, 169, 194, 233, 433, 610, 985]
def chk1000 : Bool := match ownN 1000 with
  | some L => eqL ((srt L).map thr) nums
  | none => false
theorem k1000 : chk1000 = true := by decide +kernel
def chkM : Bool := match ownN 1000000 with
  | some L => Nat.beq (srt L).length 40
  | none => false
theorem kM : chkM = true := by decide +kernel
def zs (k : Nat) : List D := (List.replicate k [D.int 0]).flatten
def za (k : Nat) : List D := (List.replicate k [D.int 0, D.int 1]).flatten
def farT : T3 := triF (List.replicate 300 0) (1, 2, 5)
def nearL : List D := [.int 0, .int 1] ++ zs 168
def nearT : T3 := triF (0 :: 1 :: List.replicate 168 0) (1, 2, 5)
theorem far1 : isL s_triple_at [.tup (zs 300)] (t3 (1, farT.2.1, farT.2.2)) = true := by decide +kernel
theorem far2 : isL s_path_of [t3 (1, farT.2.1, farT.2.2)] (.tup (zs 300)) = true := by decide +kernel
theorem far3 : selfOk (.tup (zs 300)) = true := by decide +kernel
theorem many1 : isX s_triple_at [.tup (za 30)] ⟨"TooMany", "most", .int 200⟩ = true := by decide +kernel
theorem many2 : selfOk (.tup [.str "many", .int 200]) = true := by decide +kernel
theorem near1 : isL s_triple_at [.tup nearL] (t3 nearT) = true := by decide +kernel
theorem near2 : isL s__law_triple [.tup nearL] (t3 nearT) = true := by decide +kernel
theorem near3 : rep0 (t3 nearT) = true := by decide +kernel
theorem near4 : isX s_triple_at [.tup (nearL ++ [.int 0])] ⟨"TooMany", "most", .int 200⟩ = true := by decide +kernel
theorem row1 : isX s_triple_at [.tup (za 30 ++ [.int 2])] ⟨"BadRow", "place", .int 60⟩ = true := by decide +kernel
theorem row2 : isX s_triple_at [.tup (zs 301)] ⟨"BadRow", "place", .non⟩ = true := by decide +kernel
theorem row3 : isX s_triple_at [.non] ⟨"BadRow", "place", .non⟩ = true := by decide +kernel
theorem row4 : isX s_triple_at [.str "0"] ⟨"BadRow", "place", .non⟩ = true := by decide +kernel
def r60 : D := .tup [.str "row", .int 60]
def rnn : D := .tup [.str "row", .non]
theorem row5 : selfL [r60, rnn, rnn, rnn, rnn] = true := by decide +kernel
def lowL : List D := [.tup [.int 1, .int 1, .int 1], .tup [.int 1, .int 1, .int 2]]
theorem low1 : (lowL.all fun d => isX s_path_of [d] ⟨"NoSuch", "value", d⟩ && (isL s_need_triple [d] .non && selfOk (.tup [.str "none", d]))) = true := by decide +kernel
def oddN : List D := [.int 0, .int (-1), .non, .bl true, .str "5", .int (10 ^ 60 + 1)]
theorem odd1 : (oddN.all fun d => isX s_triples_up_to [d] ⟨"BadNumber", "value", d⟩ && (isX s_triples_of [d] ⟨"BadNumber", "value", d⟩ && (isX s_is_markov [d] ⟨"BadNumber", "value", d⟩ && rep0 (.tup [.str "number", d])))) = true := by decide +kernel
theorem lens : (zs 168).length = 168 ∧ (za 30).length = 60 ∧ nearL.length = 170 := by decide +kernel
end Lw

set_option Elab.async false
set_option linter.all false
set_option maxRecDepth 100000
set_option maxHeartbeats 1000000
namespace Lw
open PySem PySem.Spec PyProof.Rows L2 Mi
theorem mul_tup {xs : List D} {k : Nat} {h : Hd} (h0 : xs.isEmpty = false) (h1 : 2 ≤ k) (h2 : k ≤ 1000) (h3 : xs.length ≤ 1000) : gMul (.tup xs) (.int k) h = .ok (.tup (List.replicate k xs).flatten) h := by
  unfold gMul
  dsimp only
  rw [if_pos]
  · rfl
  · rw [h0, decide_eq_true (show (2 : Int) ≤ (k : Int) by omega), decide_eq_true (show (k : Int) ≤ 1000 by omega), decide_eq_true h3]
    rfl
theorem mul_lst {a : Nat} {xs : List D} {k : Nat} {h : Hd} (e : h[a]? = some (.lst xs)) (h1 : k ≤ 100) (h3 : xs.length ≤ 1000) : gMul (.ref a) (.int k) h = .ok (.ref h.length) (h ++ [.lst (List.replicate k xs).flatten]) := by
  unfold gMul
  dsimp only
  rw [e]
  dsimp only
  have : xs.length * ((k : Nat) : Int).toNat ≤ 16777216 := by
    rw [Int.toNat_natCast]
    exact Nat.le_trans (Nat.mul_le_mul h3 h1) (by decide)
  rw [if_pos (by rw [rng_small (by omega) (by omega), decide_eq_true this]; rfl)]
  rfl
section
variable {v1 v2 v3 v4 v5 v6 v7 v8 v9 v10 v11 v12 v13 v14 v15 : Option D} {h : Hd}
theorem zs_ok {env : En} (k : Nat) (h1 : 2 ≤ k) (h2 : k ≤ 1000) : eOp gMul (eTup (aCons (eC (.int 0)) aNil)) (eC (.int (k : Nat))) env h = .ok (.tup (zs k)) h :=
  (op_ok (x := .tup [.int 0]) (y := .int (k : Nat)) (h1 := h) (h2 := h) (tup_ok (cons_ok rfl rfl) (by simp)) rfl).trans (mul_tup rfl h1 h2 (by simp))
theorem za_ok {env : En} (k : Nat) (h1 : 2 ≤ k) (h2 : k ≤ 1000) : eOp gMul (eTup (aCons (eC (.int 0)) (aCons (eC (.int 1)) aNil))) (eC (.int (k : Nat))) env h = .ok (.tup (za k)) h :=
  (op_ok (x := .tup [.int 0, .int 1]) (y := .int (k : Nat)) (h1 := h) (h2 := h) (tup_ok (cons_ok rfl (cons_ok rfl rfl)) (by simp)) rfl).trans (mul_tup rfl h1 h2 (by simp))
theorem own1000 : ∃ L, ownN 1000 = some L ∧ (srt L).map thr = nums := by
  have q := k1000
  unfold chk1000 at q
  cases e : ownN 1000 with
  | none => rw [e] at q; cases q
  | some L => rw [e] at q; exact ⟨L, rfl, eqL_eq q⟩
theorem ownM : ∃ L, ownN 1000000 = some L ∧ (srt L).length = 40 := by
  have q := kM
  unfold chkM at q
  cases e : ownN 1000000 with
  | none => rw [e] at q; cases q
  | some L => rw [e] at q; exact ⟨L, rfl, Nat.eq_of_beq_eq_true q⟩
theorem law_6 : ∃ h', b_law_6 (EL v1 v2 v3 v4 v5 v6 v7 v8 v9 v10 v11 v12 v13 v14 v15) h = .nx (EL v1 v2 v3 v4 v5 v6 v7 (some (.ref h.length)) v9 v10 v11 v12 v13 v14 v15) h' ∧ h'[h.length]? = some (.lst (nums.map .int)) := by
  obtain ⟨L, e, en⟩ := own1000
  obtain ⟨h3, e3, k3, q3⟩ := lc_tup (tg := gSet 16) (tst := tYesD) (el := eOp gIx (eVar 16) (eC (.int 2))) (env := EL v1 v2 v3 v4 v5 v6 v7 v8 v9 v10 v11 v12 v13 v14 v15) (h := h) (xs := (srt L).map tupI) (fun d => match d with
      | .tup [.int x, .int y, .int z] => [.int z]
      | _ => []) (by
    intro d hd hh _
    obtain ⟨r, hr, rfl⟩ := List.mem_map.mp hd
    obtain ⟨x, _, rfl⟩ := srt_mem hr
    exact ⟨hh, (turn_yes' (y := .int x.2.2) (by simp) ((op_ok (x := t3 x) (y := .int 2) rfl rfl).trans rfl)).trans rfl, Kp.refl⟩) (by
      rw [List.length_map, srt_len e]
      have := own_len e
      omega)
  rw [flat_one (p := fun r => D.int (thr r)) (fun r hr => by obtain ⟨x, _, rfl⟩ := srt_mem hr; rfl)] at q3
  have eb : (srt L).map (fun r => D.int (thr r)) = ((srt L).map thr).map .int := by rw [List.map_map]; rfl
  rw [eb, en] at q3
  exact ⟨h3, asg_ok (i := 8) ((eLc_ok (iOf_tup (h1 := h) ((call_ok (cons_ok rfl rfl)).trans (up_to_ok (n := 1000) e (by decide) (by decide) h)))).trans e3) (by simp), q3⟩
theorem law_7 {r : Nat} (q : h[r]? = some (.lst (nums.map .int))) : ∃ h', b_law_7 (EL v1 v2 v3 v4 v5 v6 v7 (some (.ref r)) v9 v10 v11 v12 v13 v14 v15) h = .nx (EL v1 v2 v3 v4 v5 v6 v7 (some (.ref r)) v9 v10 v11 v12 v13 v14 v15) h' := by
  obtain ⟨L, e, en⟩ := ownM
  refine ⟨h ++ [.lst (nums.map .int)], if_no (or_no (h1 := h ++ [.lst (nums.map .int)]) (tOf_ok ((op_ok (x := .ref r) (y := .ref h.length) (h1 := h) rfl (lst_ok (xs := nums.map .int) rfl (by decide))).trans ?_)) (tOf_ok ((op_ok (x := .int 40) (y := .int 40) (h1 := h ++ [.lst (nums.map .int)]) (h2 := h ++ [.lst (nums.map .int)]) ((call_ok (ds := [.tup ((srt L).map tupI)]) (h1 := h ++ [.lst (nums.map .int)]) (cons_ok ((call_ok (ds := [.int (1000000 : Nat)]) (h1 := h ++ [.lst (nums.map .int)]) (cons_ok ((op_ok rfl rfl).trans rfl) rfl)).trans (up_to_ok e (by decide) (by decide) _)) rfl)).trans ?_) rfl).trans ?_)))⟩
  · refine (eq_lists (l := nums) (m := nums) (app_old q) at_new).trans ?_
    rw [decide_eq_true rfl]
    rfl
  · show Res.ok (D.int (((srt L).map tupI).length : Nat)) _ = _
    rw [List.length_map, en]
    rfl
  · show Res.ok (D.bl (!decide ((40 : Int) = 40))) _ = _
    rw [decide_eq_true rfl]
    rfl
theorem law_8 : b_law_8 (EL v1 v2 v3 v4 v5 v6 v7 v8 v9 v10 v11 v12 v13 v14 v15) h = .nx (EL v1 v2 v3 v4 v5 v6 v7 v8 (some (t3 (1, farT.2.1, farT.2.2))) v10 v11 v12 v13 v14 v15) h :=
  asg_ok (i := 9) ((call_ok (cons_ok (zs_ok 300 (by decide) (by decide)) rfl)).trans (isL_ok far1 h)) (by simp)
theorem law_9 : b_law_9 (EL v1 v2 v3 v4 v5 v6 v7 v8 (some (t3 (1, farT.2.1, farT.2.2))) v10 v11 v12 v13 v14 v15) h = .nx (EL v1 v2 v3 v4 v5 v6 v7 v8 (some (t3 (1, farT.2.1, farT.2.2))) v10 v11 v12 v13 v14 v15) h := by
  have c1 : eOp gIx (eVar 9) (eC (.int 0)) (EL v1 v2 v3 v4 v5 v6 v7 v8 (some (t3 (1, farT.2.1, farT.2.2))) v10 v11 v12 v13 v14 v15) h = .ok (.int 1) h := (op_ok (x := t3 (1, farT.2.1, farT.2.2)) (y := .int 0) rfl rfl).trans rfl
  refine if_no (or_no (h1 := h) (tOf_ok ((op_ok (x := .int 1) (y := .int 1) (h1 := h) (h2 := h) c1 rfl).trans ?_)) (or_no (h1 := h) (ne_self far3 ((call_ok (cons_ok rfl rfl)).trans (isL_ok far2 h)) (zs_ok 300 (by decide) (by decide))) (ne_self (h1 := h) many2 ?_ (tup_ok (cons_ok rfl (cons_ok rfl rfl)) (by simp)))))
  · show Res.ok (D.bl (!decide ((1 : Int) = 1))) _ = _
    rw [decide_eq_true rfl]
    rfl
  · exact told_many ((call_ok (cons_ok (za_ok 30 (by decide) (by decide)) rfl)).trans (isX_ok many1 h))
theorem law_10 : b_law_10 (EL v1 v2 v3 v4 v5 v6 v7 v8 v9 v10 v11 v12 v13 v14 v15) h = .nx (EL v1 v2 v3 v4 v5 v6 v7 v8 v9 (some (.tup nearL)) v11 v12 v13 v14 v15) h :=
  asg_ok (i := 10) ((op_ok (x := .tup [.int 0, .int 1]) (y := .tup (zs 168)) (h1 := h) (h2 := h) (tup_ok (cons_ok rfl (cons_ok rfl rfl)) (by simp)) (zs_ok 168 (by decide) (by decide))).trans (cat_tup (by rw [lens.1]; decide))) (by simp)
theorem law_11 : b_law_11 (EL v1 v2 v3 v4 v5 v6 v7 v8 v9 (some (.tup nearL)) v11 v12 v13 v14 v15) h = .nx (EL v1 v2 v3 v4 v5 v6 v7 v8 v9 (some (.tup nearL)) v11 v12 v13 v14 v15) h := by
  obtain ⟨s, rp⟩ := rep0_ok near3
  refine if_no (or_no (h1 := h) (neS_same (s := s) (h1 := h) ((call_ok (cons_ok ((call_ok (cons_ok rfl rfl)).trans (isL_ok near1 h)) rfl)).trans (rp h)) ((call_ok (cons_ok ((call_ok (cons_ok rfl rfl)).trans (isL_ok near2 h)) rfl)).trans (rp h))) (ne_self (h1 := h) many2 ?_ (tup_ok (cons_ok rfl (cons_ok rfl rfl)) (by simp))))
  exact told_many ((call_ok (cons_ok ((op_ok (x := .tup nearL) (y := .tup [.int 0]) (h1 := h) (h2 := h) rfl (tup_ok (cons_ok rfl rfl) (by simp))).trans (cat_tup (by rw [lens.2.2]; decide))) rfl)).trans (isX_ok near4 h))
theorem law_12 : b_law_12 (EL v1 v2 v3 v4 v5 v6 v7 v8 v9 v10 v11 v12 v13 v14 v15) h = .nx (EL v1 v2 v3 v4 v5 v6 v7 v8 v9 v10 (some (.ref h.length)) v12 v13 v14 v15) (h ++ [.lst [r60]]) := by
  refine asg_ok (i := 11) (lst_ok (xs := [r60]) (h1 := h) (cons_ok ?_ rfl) (by simp)) (by simp)
  exact told_row ((call_ok (cons_ok ((op_ok (x := .tup (za 30)) (y := .tup [.int 2]) (h1 := h) (h2 := h) (za_ok 30 (by decide) (by decide)) (tup_ok (cons_ok rfl rfl) (by simp))).trans (cat_tup (by rw [lens.2.1]; decide))) rfl)).trans (isX_ok row1 h))
theorem triple_ref {k : Nat} {xs : List D} {h : Hd} (q : h[k]? = some (.lst xs)) : loc s_triple_at [.ref k] h = .ex ⟨"BadRow", "place", .non⟩ h := by
  rw [loc_plain rfl]
  have ty : gIsi [.ref k, .ty "tuple"] h = .ok (.bl false) h := by
    unfold gIsi
    dsimp only
    rw [show tyName (.ref k) h = some "list" by unfold tyName; dsimp only; rw [q]]
    rfl
  exact run_ex [some (.ref k), none, none, none] (seq_ex ((if_yes (or_yes (not_ok (b := false) (tOf_ok ((call_ok (cons_ok rfl (cons_ok rfl rfl))).trans ty))))).trans (raise_ok rfl)))
abbrev foundBody : Fs := sExpr (eMeth "list" mAppend (eVar 11) (aCons (eTold (toldF 3 b__law_told) (eCall (loc s_triple_at) (aCons (eVar 12) aNil))) aNil))
theorem found_turn {f : Nat} {d : D} {xs : List D} {w : Option D} (nl : ∀ m, d ≠ .lam m) (q : h[f]? = some (.lst xs)) (hl : xs.length ≤ 1000) (b : loc s_triple_at [d] h = .ex ⟨"BadRow", "place", .non⟩ h) : stepS (gSet 12) foundBody d (EL v1 v2 v3 v4 v5 v6 v7 v8 v9 v10 (some (.ref f)) w v13 v14 v15) h = .nx (EL v1 v2 v3 v4 v5 v6 v7 v8 v9 v10 (some (.ref f)) (some d) v13 v14 v15) (h.set f (.lst (xs ++ [rnn]))) := by
  refine step_set (by simp) (expr_ok (d := .non) (meth_lst (t := f) rfl q (cons_ok (x := rnn) (h1 := h) ?_ rfl) (app_ok q (by omega))))
  exact told_row ((call_ok (cons_ok (v_ok (i := 12) rfl nl) rfl)).trans b)
theorem law_13 {f : Nat} (q : h[f]? = some (.lst [r60])) : ∃ w h', b_law_13 (EL v1 v2 v3 v4 v5 v6 v7 v8 v9 v10 (some (.ref f)) v12 v13 v14 v15) h = .nx (EL v1 v2 v3 v4 v5 v6 v7 v8 v9 v10 (some (.ref f)) w v13 v14 v15) h' ∧ h'[f]? = some (.lst [r60, rnn, rnn, rnn, rnn]) := by
  have hf : f < h.length := (List.getElem?_eq_some_iff.mp q).1
  have src : iOf (eTup (aCons (eOp gMul (eTup (aCons (eC (.int 0)) aNil)) (eC (.int 301))) (aCons (eC .non) (aCons (eLst (aCons (eC (.int 0)) aNil)) (aCons (eC (.str "0")) aNil))))) (EL v1 v2 v3 v4 v5 v6 v7 v8 v9 v10 (some (.ref f)) v12 v13 v14 v15) h = .ok (fixS [.tup (zs 301), .non, .ref h.length, .str "0"]) (h ++ [.lst [.int 0]]) :=
    iOf_tup (tup_ok (cons_ok (zs_ok 301 (by decide) (by decide)) (cons_ok rfl (cons_ok (lst_ok (cons_ok rfl rfl) (by simp)) (cons_ok rfl rfl)))) (by simp))
  have q0 : (h ++ [Ob.lst [D.int 0]])[f]? = some (.lst [r60]) := app_old q
  have z0 : (h ++ [Ob.lst [D.int 0]])[h.length]? = some (.lst [.int 0]) := at_new
  generalize hk : h.length = k at *
  generalize (h ++ [Ob.lst [D.int 0]]) = g at *
  have hg : f < g.length := (List.getElem?_eq_some_iff.mp q0).1
  have t1 := found_turn (v1 := v1) (v2 := v2) (v3 := v3) (v4 := v4) (v5 := v5) (v6 := v6) (v7 := v7) (v8 := v8) (v9 := v9) (v10 := v10) (v13 := v13) (v14 := v14) (v15 := v15) (w := v12) (d := .tup (zs 301)) (fun _ z => by cases z) q0 (by simp) (isX_ok row2 g)
  have q1 : (g.set f (.lst ([r60] ++ [rnn])))[f]? = some (.lst ([r60] ++ [rnn])) := List.getElem?_set_self hg
  have z1 : (g.set f (.lst ([r60] ++ [rnn])))[k]? = some (.lst [.int 0]) := by rw [List.getElem?_set_ne (by omega)]; exact z0
  generalize (g.set f (.lst ([r60] ++ [rnn]))) = g1 at *
  have hg : f < g1.length := (List.getElem?_eq_some_iff.mp q1).1
  have t2 := found_turn (v1 := v1) (v2 := v2) (v3 := v3) (v4 := v4) (v5 := v5) (v6 := v6) (v7 := v7) (v8 := v8) (v9 := v9) (v10 := v10) (v13 := v13) (v14 := v14) (v15 := v15) (w := some (.tup (zs 301))) (d := .non) (fun _ z => by cases z) q1 (by simp) (isX_ok row3 g1)
  have q2 : (g1.set f (.lst ([r60] ++ [rnn] ++ [rnn])))[f]? = some (.lst ([r60] ++ [rnn] ++ [rnn])) := List.getElem?_set_self hg
  have z2 : (g1.set f (.lst ([r60] ++ [rnn] ++ [rnn])))[k]? = some (.lst [.int 0]) := by rw [List.getElem?_set_ne (by omega)]; exact z1
  generalize (g1.set f (.lst ([r60] ++ [rnn] ++ [rnn]))) = g2 at *
  have hg : f < g2.length := (List.getElem?_eq_some_iff.mp q2).1
  have t3' := found_turn (v1 := v1) (v2 := v2) (v3 := v3) (v4 := v4) (v5 := v5) (v6 := v6) (v7 := v7) (v8 := v8) (v9 := v9) (v10 := v10) (v13 := v13) (v14 := v14) (v15 := v15) (w := some .non) (d := .ref k) (fun _ z => by cases z) q2 (by simp) (triple_ref z2)
  have q3 : (g2.set f (.lst ([r60] ++ [rnn] ++ [rnn] ++ [rnn])))[f]? = some (.lst ([r60] ++ [rnn] ++ [rnn] ++ [rnn])) := List.getElem?_set_self hg
  generalize (g2.set f (.lst ([r60] ++ [rnn] ++ [rnn] ++ [rnn]))) = g3 at *
  have hg : f < g3.length := (List.getElem?_eq_some_iff.mp q3).1
  have t4 := found_turn (v1 := v1) (v2 := v2) (v3 := v3) (v4 := v4) (v5 := v5) (v6 := v6) (v7 := v7) (v8 := v8) (v9 := v9) (v10 := v10) (v13 := v13) (v14 := v14) (v15 := v15) (w := some (.ref k)) (d := .str "0") (fun _ z => by cases z) q3 (by simp) (isX_ok row4 g3)
  have q4 : (g3.set f (.lst ([r60] ++ [rnn] ++ [rnn] ++ [rnn] ++ [rnn])))[f]? = some (.lst ([r60] ++ [rnn] ++ [rnn] ++ [rnn] ++ [rnn])) := List.getElem?_set_self hg
  generalize (g3.set f (.lst ([r60] ++ [rnn] ++ [rnn] ++ [rnn] ++ [rnn]))) = g4 at *
  refine ⟨some (.str "0"), g4, (sFor_ok (tg := gSet 12) (body := foundBody) src).trans ?_, q4⟩
  obtain ⟨m, hm⟩ : ∃ m, most = m + 5 := ⟨1099511627771, by rw [most_eq]⟩
  rw [hm]
  rw [forL_step (fix_item (by simp)) t1, forL_step (fix_item (by simp)) t2, forL_step (fix_item (by simp)) t3', forL_step (fix_item (by simp)) t4]
  exact forL_stop fix_stop
theorem law_14 {f : Nat} (q : h[f]? = some (.lst [r60, rnn, rnn, rnn, rnn])) : ∃ h', b_law_14 (EL v1 v2 v3 v4 v5 v6 v7 v8 v9 v10 (some (.ref f)) v12 v13 v14 v15) h = .nx (EL v1 v2 v3 v4 v5 v6 v7 v8 v9 v10 (some (.ref f)) v12 v13 v14 v15) h' := by
  have c1 : eLst (aCons (eTup (aCons (eC (.str "row")) (aCons (eC (.int 60)) aNil))) aNil) (EL v1 v2 v3 v4 v5 v6 v7 v8 v9 v10 (some (.ref f)) v12 v13 v14 v15) h = .ok (.ref h.length) (h ++ [.lst [r60]]) := lst_ok (xs := [r60]) (cons_ok (tup_ok (cons_ok rfl (cons_ok rfl rfl)) (by simp)) rfl) (by simp)
  have q1 : (h ++ [Ob.lst [r60]])[f]? = some (.lst [r60, rnn, rnn, rnn, rnn]) := app_old q
  have z1 : (h ++ [Ob.lst [r60]])[h.length]? = some (.lst [r60]) := at_new
  generalize (h ++ [Ob.lst [r60]]) = g at *
  have c2 : eOp gMul (eLst (aCons (eTup (aCons (eC (.str "row")) (aCons (eC .non) aNil))) aNil)) (eC (.int 4)) (EL v1 v2 v3 v4 v5 v6 v7 v8 v9 v10 (some (.ref f)) v12 v13 v14 v15) g = .ok (.ref (g ++ [Ob.lst [rnn]]).length) (g ++ [.lst [rnn]] ++ [.lst [rnn, rnn, rnn, rnn]]) :=
    (op_ok (x := .ref g.length) (y := .int (4 : Nat)) (h1 := g ++ [.lst [rnn]]) (h2 := g ++ [.lst [rnn]]) (lst_ok (xs := [rnn]) (cons_ok (tup_ok (cons_ok rfl (cons_ok rfl rfl)) (by simp)) rfl) (by simp)) rfl).trans (mul_lst at_new (by decide) (by simp))
  have q2 : (g ++ [.lst [rnn]] ++ [Ob.lst [rnn, rnn, rnn, rnn]])[f]? = some (.lst [r60, rnn, rnn, rnn, rnn]) := app_old (app_old q1)
  have z2 : (g ++ [.lst [rnn]] ++ [Ob.lst [rnn, rnn, rnn, rnn]])[h.length]? = some (.lst [r60]) := app_old (app_old z1)
  have y2 : (g ++ [.lst [rnn]] ++ [Ob.lst [rnn, rnn, rnn, rnn]])[(g ++ [Ob.lst [rnn]]).length]? = some (.lst [rnn, rnn, rnn, rnn]) := at_new
  generalize (g ++ [Ob.lst [rnn]]).length = a at *
  generalize (g ++ [.lst [rnn]] ++ [Ob.lst [rnn, rnn, rnn, rnn]]) = g2 at *
  have c3 := cat_lst z2 y2 (by simp)
  exact ⟨_, if_no (ne_lists (b := g2.length) row5 (h1 := h) rfl ((op_ok c1 c2).trans c3) (app_old q2) at_new)⟩
abbrev lowBody : Fs := sIf (tOrD (tOf (eOp gNe (eTold (toldF 3 b__law_told) (eCall (loc s_path_of) (aCons (eVar 13) aNil))) (eTup (aCons (eC (.str "none")) (aCons (eVar 13) aNil))))) (tOf (eOp gIsNot (eCall (loc s_need_triple) (aCons (eVar 13) aNil)) (eC .non)))) (sRet (eC (.bl false))) sNil
theorem law_15 : ∃ w h', b_law_15 (EL v1 v2 v3 v4 v5 v6 v7 v8 v9 v10 v11 v12 v13 v14 v15) h = .nx (EL v1 v2 v3 v4 v5 v6 v7 v8 v9 v10 v11 v12 w v14 v15) h' := by
  obtain ⟨env', h', e', ⟨w, rfl⟩⟩ := for_tup (tg := gSet 13) (body := lowBody) (env := EL v1 v2 v3 v4 v5 v6 v7 v8 v9 v10 v11 v12 v13 v14 v15) (h := h) (xs := lowL) (fun env _ => ∃ w, env = EL v1 v2 v3 v4 v5 v6 v7 v8 v9 v10 v11 v12 w v14 v15) ⟨_, rfl⟩ (by
    rintro d hd env h1 ⟨w, rfl⟩
    have q := List.all_eq_true.mp low1 d hd
    obtain ⟨q1, q⟩ := He.ba q
    obtain ⟨q2, q3⟩ := He.ba q
    have nl : ∀ m, d ≠ .lam m := by
      intro m e
      subst e
      unfold lowL at hd
      simp at hd
    have ev : eVar 13 (EL v1 v2 v3 v4 v5 v6 v7 v8 v9 v10 v11 v12 (some d) v14 v15) h1 = .ok d h1 := v_ok rfl nl
    refine ⟨_, h1, step_set (env' := EL v1 v2 v3 v4 v5 v6 v7 v8 v9 v10 v11 v12 (some d) v14 v15) (by simp) (if_no (or_no (h1 := h1) (ne_self (h1 := h1) q3 ?_ (tup_ok (cons_ok rfl (cons_ok ev rfl)) (by simp))) (tOf_ok ((op_ok (x := .non) (y := .non) (h1 := h1) ((call_ok (cons_ok ev rfl)).trans (isL_ok q2 h1)) rfl).trans rfl)))), _, rfl⟩
    exact told_none ((call_ok (cons_ok ev rfl)).trans (isX_ok q1 h1))) (by simp [lowL])
  exact ⟨w, h', (sFor_ok (tg := gSet 13) (body := lowBody) (iOf_tup (xs := lowL) (h1 := h) (tup_ok (cons_ok (tup_ok (cons_ok rfl (cons_ok rfl (cons_ok rfl rfl))) (by simp)) (cons_ok (tup_ok (cons_ok rfl (cons_ok rfl (cons_ok rfl rfl))) (by simp)) rfl)) (by simp [lowL])))).trans e'⟩
abbrev oddBody : Fs := sIf (tOf (eOp gNe (eCall gRepr (aCons (eTold (toldF 3 b__law_told) (eCallV 15 [("triples_up_to", (loc s_triples_up_to)), ("triples_of", (loc s_triples_of)), ("is_markov", (loc s_is_markov))] (aCons (eVar 14) aNil))) aNil)) (eCall gRepr (aCons (eTup (aCons (eC (.str "number")) (aCons (eVar 14) aNil))) aNil)))) (sRet (eC (.bl false))) sNil
theorem odd_pass {d : D} {n : Str} {F : List D → Hd → Res D} (nl : ∀ m, d ≠ .lam m) (hL : ([("triples_up_to", (loc s_triples_up_to)), ("triples_of", (loc s_triples_of)), ("is_markov", (loc s_is_markov))] : Tb).lookup n = some F) (q : F [d] h = .ex ⟨"BadNumber", "value", d⟩ h) (rep : ∃ s, ∀ h, gRepr [.tup [.str "number", d]] h = .ok (.str s) h) :
    oddBody (EL v1 v2 v3 v4 v5 v6 v7 v8 v9 v10 v11 v12 v13 (some d) (some (.gl n))) h = .nx (EL v1 v2 v3 v4 v5 v6 v7 v8 v9 v10 v11 v12 v13 (some d) (some (.gl n))) h := by
  obtain ⟨s, rep⟩ := rep
  have ev : eVar 14 (EL v1 v2 v3 v4 v5 v6 v7 v8 v9 v10 v11 v12 v13 (some d) (some (.gl n))) h = .ok d h := v_ok rfl nl
  have cv : eCallV 15 [("triples_up_to", (loc s_triples_up_to)), ("triples_of", (loc s_triples_of)), ("is_markov", (loc s_is_markov))] (aCons (eVar 14) aNil) (EL v1 v2 v3 v4 v5 v6 v7 v8 v9 v10 v11 v12 v13 (some d) (some (.gl n))) h = .ex ⟨"BadNumber", "value", d⟩ h := by
    unfold eCallV
    show (match (([("triples_up_to", (loc s_triples_up_to)), ("triples_of", (loc s_triples_of)), ("is_markov", (loc s_is_markov))] : Tb).lookup n) with
      | some F => (aCons (eVar 14) aNil (EL v1 v2 v3 v4 v5 v6 v7 v8 v9 v10 v11 v12 v13 (some d) (some (.gl n))) h).bind F
      | none => .no) = _
    rw [hL]
    dsimp only
    rw [cons_ok ev rfl]
    exact q
  have t : eTold (toldF 3 b__law_told) (eCallV 15 [("triples_up_to", (loc s_triples_up_to)), ("triples_of", (loc s_triples_of)), ("is_markov", (loc s_is_markov))] (aCons (eVar 14) aNil)) (EL v1 v2 v3 v4 v5 v6 v7 v8 v9 v10 v11 v12 v13 (some d) (some (.gl n))) h = .ok (.tup [.str "number", d]) h := told_number cv
  exact if_no (neS_same (s := s) (h1 := h) ((call_ok (cons_ok t rfl)).trans (rep h)) ((call_ok (cons_ok (tup_ok (cons_ok rfl (cons_ok ev rfl)) (by simp)) rfl)).trans (rep h)))
abbrev oddLoop : Fs := sFor (iOf (eTup (aCons (eC (.gl "triples_up_to")) (aCons (eC (.gl "triples_of")) (aCons (eC (.gl "is_markov")) aNil))))) (gSet 15) oddBody
theorem law_16 : ∃ w14 w15 h', b_law_16 (EL v1 v2 v3 v4 v5 v6 v7 v8 v9 v10 v11 v12 v13 v14 v15) h = .nx (EL v1 v2 v3 v4 v5 v6 v7 v8 v9 v10 v11 v12 v13 w14 w15) h' := by
  obtain ⟨env', h', e', ⟨w14, w15, rfl⟩⟩ := for_tup (tg := gSet 14) (body := oddLoop) (env := EL v1 v2 v3 v4 v5 v6 v7 v8 v9 v10 v11 v12 v13 v14 v15) (h := h) (xs := oddN) (fun env _ => ∃ w14 w15, env = EL v1 v2 v3 v4 v5 v6 v7 v8 v9 v10 v11 v12 v13 w14 w15) ⟨_, _, rfl⟩ (by
    rintro d hd env h1 ⟨w14, w15, rfl⟩
    have q := List.all_eq_true.mp odd1 d hd
    obtain ⟨q1, q⟩ := He.ba q
    obtain ⟨q2, q⟩ := He.ba q
    obtain ⟨q3, q4⟩ := He.ba q
    have nl : ∀ m, d ≠ .lam m := by
      intro m e
      subst e
      unfold oddN at hd
      simp at hd
    obtain ⟨env2, h2, e2, ⟨u15, rfl⟩⟩ := for_tup (tg := gSet 15) (body := oddBody) (env := EL v1 v2 v3 v4 v5 v6 v7 v8 v9 v10 v11 v12 v13 (some d) w15) (h := h1) (xs := [.gl "triples_up_to", .gl "triples_of", .gl "is_markov"]) (fun env _ => ∃ u15, env = EL v1 v2 v3 v4 v5 v6 v7 v8 v9 v10 v11 v12 v13 (some d) u15) ⟨_, rfl⟩ (by
      rintro g hg env h3 ⟨u15, rfl⟩
      rcases List.mem_cons.mp hg with rfl | hg
      · exact ⟨_, h3, step_set (by simp) (odd_pass (n := "triples_up_to") nl rfl (isX_ok q1 h3) (rep0_ok q4)), _, rfl⟩
      · rcases List.mem_cons.mp hg with rfl | hg
        · exact ⟨_, h3, step_set (by simp) (odd_pass (n := "triples_of") nl rfl (isX_ok q2 h3) (rep0_ok q4)), _, rfl⟩
        · rcases List.mem_cons.mp hg with rfl | hg
          · exact ⟨_, h3, step_set (by simp) (odd_pass (n := "is_markov") nl rfl (isX_ok q3 h3) (rep0_ok q4)), _, rfl⟩
          · cases hg) (by simp)
    exact ⟨_, h2, step_set (by simp) ((sFor_ok (tg := gSet 15) (body := oddBody) (iOf_tup (xs := [.gl "triples_up_to", .gl "triples_of", .gl "is_markov"]) (h1 := h1) (tup_ok (cons_ok rfl (cons_ok rfl (cons_ok rfl rfl))) (by simp)))).trans e2), _, _, rfl⟩) (by simp [oddN])
  have src : iOf (eTup (aCons (eC (.int 0)) (aCons (eUn gNeg (eC (.int 1))) (aCons (eC .non) (aCons (eC (.bl true)) (aCons (eC (.str "5")) (aCons (eOp gAdd (eOp gPow (eC (.int 10)) (eC (.int 60))) (eC (.int 1))) aNil))))))) (EL v1 v2 v3 v4 v5 v6 v7 v8 v9 v10 v11 v12 v13 v14 v15) h = .ok (fixS oddN) h :=
    iOf_tup (xs := oddN) (tup_ok (cons_ok rfl (cons_ok rfl (cons_ok rfl (cons_ok rfl (cons_ok rfl (cons_ok ((op_ok (x := .int (10 ^ 60)) (y := .int 1) (h1 := h) (h2 := h) ((op_ok (x := .int 10) (y := .int 60) rfl rfl).trans rfl) rfl).trans rfl) rfl)))))) (by simp [oddN]))
  exact ⟨w14, w15, h', (sFor_ok (tg := gSet 14) (body := oddLoop) src).trans e'⟩
end
theorem law_true (ns : List Int) : ∃ h', s_law [.ref 0] [.fro (ns.map .int)] = .ok (.bl true) h' := by
  obtain ⟨v1, v2, h0, e0, z0⟩ := law_0 ns
  obtain ⟨s, h1, e1, st1⟩ := law_1 (v1 := v1) (v2 := v2) z0
  obtain ⟨M, h2, e2, m1, m2⟩ := law_2 (v1 := v1) (v2 := v2) st1
  obtain ⟨O, m⟩ := most_ok m1 m2
  have e3 : b_law_3 (EL v1 v2 (some (.ref s)) (some (.int (M : Nat))) none none none none none none none none none none none) h2 = .nx (EL v1 v2 (some (.ref s)) (some (.int (M : Nat))) (some (.ref h2.length)) none none none none none none none none none none) (h2 ++ [.lst ((srt O).map tupI)]) := asg_ok (i := 5) ((call_ok (cons_ok rfl rfl)).trans (m.tri h2)) (by simp)
  have e4 := law_4 (v1 := v1) (v2 := v2) (v3 := some (.ref s)) m (h := h2 ++ [.lst ((srt O).map tupI)]) at_new
  obtain ⟨w6, w7, h5, e5⟩ := law_5 (v1 := v1) (v2 := v2) (v3 := some (.ref s)) m (h := h2 ++ [.lst ((srt O).map tupI)]) at_new
  obtain ⟨h6, e6, q6⟩ := law_6 (v1 := v1) (v2 := v2) (v3 := some (.ref s)) (v4 := some (.int (M : Nat))) (v5 := some (.ref h2.length)) (v6 := w6) (v7 := w7) (v8 := none) (v9 := none) (v10 := none) (v11 := none) (v12 := none) (v13 := none) (v14 := none) (v15 := none) (h := h5)
  obtain ⟨h7, e7⟩ := law_7 (v1 := v1) (v2 := v2) (v3 := some (.ref s)) (v4 := some (.int (M : Nat))) (v5 := some (.ref h2.length)) (v6 := w6) (v7 := w7) (v9 := none) (v10 := none) (v11 := none) (v12 := none) (v13 := none) (v14 := none) (v15 := none) q6
  obtain ⟨w12, h13, e13, q13⟩ := law_13 (v1 := v1) (v2 := v2) (v3 := some (.ref s)) (v4 := some (.int (M : Nat))) (v5 := some (.ref h2.length)) (v6 := w6) (v7 := w7) (v8 := some (.ref h5.length)) (v9 := some (t3 (1, farT.2.1, farT.2.2))) (v10 := some (.tup nearL)) (v12 := none) (v13 := none) (v14 := none) (v15 := none) (h := h7 ++ [.lst [r60]]) at_new
  obtain ⟨h14, e14⟩ := law_14 (v1 := v1) (v2 := v2) (v3 := some (.ref s)) (v4 := some (.int (M : Nat))) (v5 := some (.ref h2.length)) (v6 := w6) (v7 := w7) (v8 := some (.ref h5.length)) (v9 := some (t3 (1, farT.2.1, farT.2.2))) (v10 := some (.tup nearL)) (v12 := w12) (v13 := none) (v14 := none) (v15 := none) q13
  obtain ⟨w13, h15, e15⟩ := law_15 (v1 := v1) (v2 := v2) (v3 := some (.ref s)) (v4 := some (.int (M : Nat))) (v5 := some (.ref h2.length)) (v6 := w6) (v7 := w7) (v8 := some (.ref h5.length)) (v9 := some (t3 (1, farT.2.1, farT.2.2))) (v10 := some (.tup nearL)) (v11 := some (.ref h7.length)) (v12 := w12) (v13 := none) (v14 := none) (v15 := none) (h := h14)
  obtain ⟨w14, w15, h16, e16⟩ := law_16 (v1 := v1) (v2 := v2) (v3 := some (.ref s)) (v4 := some (.int (M : Nat))) (v5 := some (.ref h2.length)) (v6 := w6) (v7 := w7) (v8 := some (.ref h5.length)) (v9 := some (t3 (1, farT.2.1, farT.2.2))) (v10 := some (.tup nearL)) (v11 := some (.ref h7.length)) (v12 := w12) (v13 := w13) (v14 := none) (v15 := none) (h := h15)
  exact ⟨h16, run_rt (EL none none none none none none none none none none none none none none none) ((seq_nx e0).trans ((seq_nx e1).trans ((seq_nx e2).trans ((seq_nx e3).trans ((seq_nx e4).trans ((seq_nx e5).trans ((seq_nx e6).trans ((seq_nx e7).trans ((seq_nx law_8).trans ((seq_nx law_9).trans ((seq_nx law_10).trans ((seq_nx law_11).trans ((seq_nx law_12).trans ((seq_nx e13).trans ((seq_nx e14).trans ((seq_nx e15).trans ((seq_nx e16).trans (ret_ok rfl))))))))))))))))))⟩
end Lw

set_option Elab.async false
set_option linter.all false
set_option maxRecDepth 100000
set_option maxHeartbeats 0
namespace Lw
open PySem PySem.Spec PyProof.Rows L2 Mi
abbrev R : PySem.W.OpenRow := PySem.W.OpenLaw.row PySem.Challenge.rw_alwayswhole_k83_whole_triples_and_their
abbrev hk : PySem.W.Hook := hookU 6 fs fn tf
def ob (s : PySem.W.SharedT) : He.AlD × Bool := obsU 6 fs fn tf (HandSHeadRun.getT s)
theorem ob_eq (s : PySem.W.SharedT) : ob s = hk.obs s.abs := obsU_eq (HandSHeadRun.getT_eq s)
def loose : List PySem.Str := (["WholeError", "BadNumber", "BadRow", "BadTriple", "BadText", "TooMany", "NoSuch", "is_whole", "MOST_NUMBER", "MOST_DIGITS", "MOST_LISTED", "does_solve", "are_numbers", "need_most", "MARKOV", "LOW", "TOP", "MOST_PATH", "wrong_triple", "need_triple"] : List PySem.Str) ++ (["next_triple", "triple_at", "own_path", "need_high", "path_of", "own_triples", "triples_up_to", "triples_of", "is_markov", "_law_mixed", "_law_draw", "_law_digit", "_law_root", "_law_told", "_law_triple", "_law_tried", "_law_right"] : List PySem.Str)
theorem runTop (w : World) : HandSHeadRun.RunEq R (PySem.W.view R.prog [42]) hk ob 6000 loose w := by
  intro os
  kernel_rfl
end Lw

set_option Elab.async false
set_option linter.all false
set_option maxRecDepth 100000
set_option maxHeartbeats 0
namespace Lw
open PySem PySem.Spec PyProof.Rows L2 Mi
theorem ends {P : Program} {w : World} {K : PySem.W.Frag} {h : Heap} {mg : Str → Option Value} {f : Addr} (X : K.In h) (z : obsK fs fn K = He.valD fn) (nd : (tf.map fun p => (He.cT K p).2).Nodup) (G : h.Ns mainGlobals mg) (hfa : mg ("law" : Str) = some (.ref f)) :
    ∃ fd : FuncData, (∀ (s : Shared) (u : Value), BindsTo s fd ⟨[u], []⟩ [("script", u)]) ∧ ∀ base : Heap, K.In base → base.Ns mainGlobals mg → (∀ p ∈ tf, LamX.TabB base mg (He.cT K p).1 (He.cT K p).2) → FnG P w K mg base (L2.CX P w) 10 f fd ["script"] (spD (rx K mg (tabsOf K tf)) 1 s_law) := by
  have e1 : PySem.W.nsIn K mainGlobals "law" = some (some (.ref (He.ga K "law"))) := He.eqO_ok (fact z 91)
  have e := hfa.symm.trans (PySem.W.mg_of X G e1)
  cases e
  obtain ⟨fd, F⟩ := def_ z 23 (d := d_law)
  have b := FunD.bindsA (ps := ["script"]) F fun _ _ _ _ _ _ us hl => match us, hl with | [_], _ => rfl
  refine ⟨fd, fun s u => b s [u] rfl, fun base _ _ tb => ?_⟩
  have c := mkF X G z nd tb
  obtain ⟨fd', F', hF⟩ := (ok_law (P := P) (w := w) (base := base) c).ex
  have e2 : fd = fd' := by
    obtain ⟨_, _, _, _, _, _, _, _, _, _, rfl, l1, _, _, _⟩ := F.ex
    obtain ⟨_, _, _, _, _, _, _, _, _, _, rfl, l2, _, _, _⟩ := F'.ex
    rw [l1] at l2
    cases l2
    rfl
  subst e2
  exact hF
end Lw
open PySem PySem.W PySem.Calls PyProof.Rows
theorem final (hm : ∀ ns : List Int, ns.length ≤ 63 → (∀ z ∈ ns, Builtin.Int.intBits z ≤ 1048576) → ∃ h', Lw.s_law [.ref 0] [.fro (ns.map .int)] = .ok (.bl true) h') : PySem.Challenge.rw_alwayswhole_k83_whole_triples_and_their.Holds := by
  w_on; o_law
  refine HandSHeadRun.head_any (r := OpenLaw.row PySem.Challenge.rw_alwayswhole_k83_whole_triples_and_their) (q := view (OpenLaw.row PySem.Challenge.rw_alwayswhole_k83_whole_triples_and_their).prog [42]) (H := Lw.hk) (ob := Lw.ob) (M := 6000) (loose := Lw.loose) (d := HandSHeadRun.topDef (OpenLaw.row PySem.Challenge.rw_alwayswhole_k83_whole_triples_and_their).prog 42) (kwd := []) Lw.ob_eq
    (by kernel_rfl) (fun s => by kernel_rfl) Lw.runTop (by kernel_rfl) (by kernel_rfl) (by kernel_rfl) (by rfl) (by first | assumption | decide +kernel) (by decide +kernel) ⟨rfl, rfl, rfl, rfl, rfl, by decide +kernel⟩ ?hw ?hc
  case hw => w_witness2
  case hc =>
    refine Mi.walk_ofT (l := PySem.Challenge.rw_alwayswhole_k83_whole_triples_and_their) (n := 63) (k := 10) (x := "script") rfl (by decide) (by kernel_rfl) ⟨⟨rfl, by decide, by decide⟩, rfl⟩ ?F
    intro w mg fa h K X z nd G hmg0
    have hmg : mg ("law" : PySem.Str) = some (.ref fa) := by
      have e : (HandSHeadRun.topDef (OpenLaw.row PySem.Challenge.rw_alwayswhole_k83_whole_triples_and_their).prog 42).name = ("law" : PySem.Str) := by kernel_rfl
      rw [← e]
      exact hmg0
    obtain ⟨fd, hb, hF⟩ := Lw.ends (P := (PySem.Challenge.rw_alwayswhole_k83_whole_triples_and_their).prog) (w := w) X z nd G hmg
    exact ⟨fd, Lw.s_law, hb, hm, hF⟩

set_option maxHeartbeats 0
theorem PySem.Challenge.cw_alwayswhole_k83_whole_triples_and_their_holds : PySem.Challenge.rw_alwayswhole_k83_whole_triples_and_their.Holds := by
  exact final fun ns _ _ => Lw.law_true ns
