import PyProof.Rows.All
import Wide.All
import OpenK.AllK
import Wide.FinOn
import HandS.ForMost
import HandS.Exc
import HandS.TryOnly
import HandS.ExcInit
import HandS.CallSlots
import HandS.Walk
import HandS.Defaults
import HandS.Style
import KE.GoesEnum
import KE.GoesMore
import HandS.HeadHook1
import HandS.HeadHook2
import KE.KExcInit
import HandS.Small
import HandS.TupAny
import HandS.TupMul
import HandS.TupLe
import HandS.Wide
import HandS.Deep
import HandS.IsInst
import HandS.Dict
import HandS.SortInts
import HandS.RaiseMore
import HandS.Text
import HandS.Codes
import HandS.CallLocal
import HandS.Ends
import HandS.EndBits
import HandS.HeadEnd
import HandS.Words
import HandS.Head0
import HandS.Head1
import HandS.Head2
import PyProof.StrBlockL
import PyProof.Rows.RegStrFacts
import PySem.Challenge.RW_alwayswhole_k56_whole_friezes
import Lean
import KE.KStateDown
set_option Elab.async false
set_option linter.all false
set_option maxRecDepth 100000
set_option maxHeartbeats 1000000
namespace Mi
open PySem PySem.Spec PyProof.Rows L2
abbrev St := L2.St

/-! ### values as data -/
inductive D where
  | non | bl (b : Bool) | int (i : Int) | str (x : Str) | tup (xs : List D) | ref (n : Nat) | gl (x : Str) | ty (n : String) | exc (n : Nat) (c f : Str) (v : D)
inductive Ob where
  | lst (xs : List D) | fro (xs : List D) | dic (kvs : List (Key × D))
structure Exn where
  c : Str
  f : Str
  v : D
abbrev Hd := List Ob
abbrev En := List (Option D)
inductive Res (A : Type) where
  | ok (a : A) (h : Hd) | ex (e : Exn) (h : Hd) | no
@[simp] def Res.bind {A B : Type} (r : Res A) (f : A → Hd → Res B) : Res B := match r with
  | .ok a h => f a h
  | .ex e h => .ex e h
  | .no => .no
structure Rx where
  K : PySem.W.Frag
  mg : Str → Option Value
  xa : Nat → Option (Addr × Value × Addr)

mutual
def RelD (R : Rx) (α : List Addr) (H : Hp) : D → V → Prop
  | .non, v => v = .non
  | .bl b, v => v = .bl b
  | .int i, v => v = .int i
  | .str x, v => v = .str x
  | .tup xs, v => ∃ a vs, v = .ref a ∧ SqT R.K H a vs ∧ RelDs R α H xs vs
  | .ref n, v => ∃ a, α[n]? = some a ∧ v = .ref a
  | .gl x, v => ∃ a, R.mg x = some (.ref a) ∧ v = .ref a
  | .ty n, v => v = .ty n
  | .exc n c f d, v => ∀ a cls dd, R.xa n = some (a, cls, dd) → v = .ref a ∧ ∃ C v', R.mg c = some (.ref C) ∧ cls = .ref C ∧ H dd = some (.xd [(f, v')]) ∧ RelD R α H d v'
def RelDs (R : Rx) (α : List Addr) (H : Hp) : List D → List V → Prop
  | [], vs => vs = []
  | x :: xs, vs => ∃ v r, vs = v :: r ∧ RelD R α H x v ∧ RelDs R α H xs r
end
def RelKs (R : Rx) (α : List Addr) (H : Hp) : List (Key × D) → List (Key × V) → Prop
  | [], vs => vs = []
  | (k, x) :: xs, vs => ∃ v r, vs = (k, v) :: r ∧ RelD R α H x v ∧ RelKs R α H xs r
def Stable : HO → Prop
  | .tup _ => True
  | .xd _ => True
  | .frz _ _ => True
  | _ => False
structure Ext (α : List Addr) (H : Hp) (α' : List Addr) (H' : Hp) : Prop where
  pre : ∃ β, α' = α ++ β
  st : ∀ a o, H a = some o → Stable o → H' a = some o
theorem Ext.refl {α : List Addr} {H : Hp} : Ext α H α H := ⟨⟨[], by simp⟩, fun _ _ h _ => h⟩
theorem Ext.trans {α α1 α2 : List Addr} {H H1 H2 : Hp} (a : Ext α H α1 H1) (b : Ext α1 H1 α2 H2) : Ext α H α2 H2 := by
  obtain ⟨β, e⟩ := a.pre
  obtain ⟨γ, e'⟩ := b.pre
  exact ⟨⟨β ++ γ, by rw [e', e, List.append_assoc]⟩, fun x o h s => b.st x o (a.st x o h s) s⟩
theorem Ext.get {α α' : List Addr} {H H' : Hp} (e : Ext α H α' H') {n : Nat} {a : Addr} (h : α[n]? = some a) : α'[n]? = some a := by
  obtain ⟨β, e⟩ := e.pre
  rw [e, List.getElem?_append_left (List.getElem?_eq_some_iff.mp h).1]
  exact h
theorem Ext.sqT {K : PySem.W.Frag} {α α' : List Addr} {H H' : Hp} (e : Ext α H α' H') {a : Addr} {vs : List V} (h : SqT K H a vs) : SqT K H' a vs := by
  rcases h with (h | ⟨o, h⟩) | h
  · exact .inl (.inl (e.st _ _ h trivial))
  · exact .inl (.inr ⟨o, e.st _ _ h trivial⟩)
  · exact .inr h
section
variable {R : Rx} {α α' : List Addr} {H H' : Hp}
mutual
theorem RelD.ext (e : Ext α H α' H') : ∀ (d : D) (v : V), RelD R α H d v → RelD R α' H' d v
  | .non, _, h => h
  | .bl _, _, h => h
  | .int _, _, h => h
  | .str _, _, h => h
  | .tup xs, v, h => by
    unfold RelD at h ⊢
    obtain ⟨a, vs, h1, h2, h3⟩ := h
    exact ⟨a, vs, h1, e.sqT h2, RelDs.ext e xs vs h3⟩
  | .ref n, v, h => by
    unfold RelD at h ⊢
    obtain ⟨a, h1, h2⟩ := h
    exact ⟨a, e.get h1, h2⟩
  | .gl _, _, h => h
  | .ty _, _, h => h
  | .exc n c f d, v, h => by
    unfold RelD at h ⊢
    intro a cls dd hx
    obtain ⟨h1, C, v', h2, h3, h4, h5⟩ := h a cls dd hx
    exact ⟨h1, C, v', h2, h3, e.st _ _ h4 trivial, RelD.ext e d v' h5⟩
theorem RelDs.ext (e : Ext α H α' H') : ∀ (ds : List D) (vs : List V), RelDs R α H ds vs → RelDs R α' H' ds vs
  | [], _, h => h
  | x :: xs, vs, h => by
    unfold RelDs at h ⊢
    obtain ⟨v, r, h1, h2, h3⟩ := h
    exact ⟨v, r, h1, RelD.ext e x v h2, RelDs.ext e xs r h3⟩
end
theorem RelKs.ext (e : Ext α H α' H') : ∀ (ds : List (Key × D)) (vs : List (Key × V)), RelKs R α H ds vs → RelKs R α' H' ds vs
  | [], _, h => h
  | (k, x) :: xs, vs, h => by
    unfold RelKs at h ⊢
    obtain ⟨v, r, h1, h2, h3⟩ := h
    exact ⟨v, r, h1, RelD.ext e x v h2, RelKs.ext e xs r h3⟩
end
/-! ### lists of related things -/
section
variable {R : Rx} {α : List Addr} {H : Hp}
theorem RelDs.nil : RelDs R α H [] [] := by unfold RelDs; rfl
theorem RelDs.cons {x : D} {xs : List D} {v : V} {vs : List V} (h : RelD R α H x v) (t : RelDs R α H xs vs) : RelDs R α H (x :: xs) (v :: vs) := by
  unfold RelDs; exact ⟨v, vs, rfl, h, t⟩
theorem RelDs.nil_inv {vs : List V} (h : RelDs R α H [] vs) : vs = [] := by unfold RelDs at h; exact h
theorem RelDs.cons_inv {x : D} {xs : List D} {vs : List V} (h : RelDs R α H (x :: xs) vs) : ∃ v r, vs = v :: r ∧ RelD R α H x v ∧ RelDs R α H xs r := by unfold RelDs at h; exact h
theorem RelDs.length : ∀ {ds : List D} {vs : List V}, RelDs R α H ds vs → ds.length = vs.length
  | [], _, h => by rw [h.nil_inv]; rfl
  | x :: xs, vs, h => by
    obtain ⟨v, r, e, _, t⟩ := h.cons_inv
    rw [e, List.length_cons, List.length_cons, t.length]
theorem RelDs.get : ∀ {ds : List D} {vs : List V} {i : Nat} {d : D}, RelDs R α H ds vs → ds[i]? = some d → ∃ v, vs[i]? = some v ∧ RelD R α H d v
  | [], _, _, _, _, e => by simp at e
  | x :: xs, vs, 0, d, h, e => by
    obtain ⟨v, r, e1, h1, _⟩ := h.cons_inv
    simp at e; subst e
    exact ⟨v, by rw [e1]; rfl, h1⟩
  | x :: xs, vs, i + 1, d, h, e => by
    obtain ⟨v, r, e1, _, t⟩ := h.cons_inv
    obtain ⟨u, h1, h2⟩ := t.get (i := i) (d := d) (by simpa using e)
    exact ⟨u, by rw [e1]; simpa using h1, h2⟩
theorem RelDs.append : ∀ {xs ys : List D} {vs ws : List V}, RelDs R α H xs vs → RelDs R α H ys ws → RelDs R α H (xs ++ ys) (vs ++ ws)
  | [], _, _, _, h, h' => by rw [h.nil_inv]; exact h'
  | x :: xs, ys, vs, ws, h, h' => by
    obtain ⟨v, r, e, h1, t⟩ := h.cons_inv
    rw [e]
    exact .cons h1 (t.append h')
theorem RelDs.set : ∀ {xs : List D} {vs : List V} {d : D} {v : V} (i : Nat), RelDs R α H xs vs → RelD R α H d v → RelDs R α H (xs.set i d) (vs.set i v)
  | [], _, _, _, _, h, _ => by rw [h.nil_inv]; exact .nil
  | x :: xs, vs, d, v, 0, h, hd => by
    obtain ⟨u, r, e, h1, t⟩ := h.cons_inv
    rw [e]
    exact .cons hd t
  | x :: xs, vs, d, v, i + 1, h, hd => by
    obtain ⟨u, r, e, h1, t⟩ := h.cons_inv
    rw [e]
    exact .cons h1 (t.set i hd)
theorem RelDs.take : ∀ {xs : List D} {vs : List V} (n : Nat), RelDs R α H xs vs → RelDs R α H (xs.take n) (vs.take n)
  | _, _, 0, _ => by simp; exact .nil
  | [], _, n + 1, h => by rw [h.nil_inv]; exact .nil
  | x :: xs, vs, n + 1, h => by
    obtain ⟨u, r, e, h1, t⟩ := h.cons_inv
    rw [e]
    exact .cons h1 (t.take n)
theorem RelDs.drop : ∀ {xs : List D} {vs : List V} (n : Nat), RelDs R α H xs vs → RelDs R α H (xs.drop n) (vs.drop n)
  | _, _, 0, h => h
  | [], _, n + 1, h => by rw [h.nil_inv]; exact .nil
  | x :: xs, vs, n + 1, h => by
    obtain ⟨u, r, e, h1, t⟩ := h.cons_inv
    rw [e]
    exact t.drop n
theorem RelDs.reverse : ∀ {xs : List D} {vs : List V}, RelDs R α H xs vs → RelDs R α H xs.reverse vs.reverse
  | [], _, h => by rw [h.nil_inv]; exact .nil
  | x :: xs, vs, h => by
    obtain ⟨u, r, e, h1, t⟩ := h.cons_inv
    rw [e, List.reverse_cons, List.reverse_cons]
    exact t.reverse.append (.cons h1 .nil)
theorem RelDs.eraseIdx : ∀ {xs : List D} {vs : List V} (i : Nat), RelDs R α H xs vs → RelDs R α H (xs.eraseIdx i) (vs.eraseIdx i)
  | [], _, _, h => by rw [h.nil_inv]; exact .nil
  | x :: xs, vs, 0, h => by
    obtain ⟨u, r, e, h1, t⟩ := h.cons_inv
    rw [e]
    exact t
  | x :: xs, vs, i + 1, h => by
    obtain ⟨u, r, e, h1, t⟩ := h.cons_inv
    rw [e]
    exact .cons h1 (t.eraseIdx i)
theorem RelDs.rep {xs : List D} {vs : List V} (h : RelDs R α H xs vs) : ∀ k : Nat, RelDs R α H (List.replicate k xs).flatten (List.replicate k vs).flatten
  | 0 => .nil
  | k + 1 => by
    rw [List.replicate_succ, List.replicate_succ, List.flatten_cons, List.flatten_cons]
    exact h.append (h.rep k)
theorem RelDs.one {d : D} {vs : List V} (h : RelDs R α H [d] vs) : ∃ v, vs = [v] ∧ RelD R α H d v := by
  obtain ⟨v, r, e, h1, t⟩ := h.cons_inv
  rw [t.nil_inv] at e
  exact ⟨v, e, h1⟩
theorem RelDs.two {d d' : D} {vs : List V} (h : RelDs R α H [d, d'] vs) : ∃ v v', vs = [v, v'] ∧ RelD R α H d v ∧ RelD R α H d' v' := by
  obtain ⟨v, r, e, h1, t⟩ := h.cons_inv
  obtain ⟨v', e', h2⟩ := t.one
  rw [e'] at e
  exact ⟨v, v', e, h1, h2⟩
theorem RelD.int_inv {i : Int} {v : V} (h : RelD R α H (.int i) v) : v = .int i := by unfold RelD at h; exact h
theorem RelD.bl_inv {i : Bool} {v : V} (h : RelD R α H (.bl i) v) : v = .bl i := by unfold RelD at h; exact h
theorem RelD.non_inv {v : V} (h : RelD R α H .non v) : v = .non := by unfold RelD at h; exact h
theorem RelD.str_inv {x : Str} {v : V} (h : RelD R α H (.str x) v) : v = .str x := by unfold RelD at h; exact h
theorem RelD.ty_inv {x : String} {v : V} (h : RelD R α H (.ty x) v) : v = .ty x := by unfold RelD at h; exact h
theorem RelD.tup_inv {xs : List D} {v : V} (h : RelD R α H (.tup xs) v) : ∃ a vs, v = .ref a ∧ SqT R.K H a vs ∧ RelDs R α H xs vs := by unfold RelD at h; exact h
theorem RelD.ref_inv {n : Nat} {v : V} (h : RelD R α H (.ref n) v) : ∃ a, α[n]? = some a ∧ v = .ref a := by unfold RelD at h; exact h
theorem RelD.gl_inv {x : Str} {v : V} (h : RelD R α H (.gl x) v) : ∃ a, R.mg x = some (.ref a) ∧ v = .ref a := by unfold RelD at h; exact h
theorem RelD.int {i : Int} : RelD R α H (.int i) (.int i) := by unfold RelD; rfl
theorem RelD.bl {i : Bool} : RelD R α H (.bl i) (.bl i) := by unfold RelD; rfl
theorem RelD.non : RelD R α H .non .non := by unfold RelD; rfl
theorem RelD.str {x : Str} : RelD R α H (.str x) (.str x) := by unfold RelD; rfl
theorem RelD.ty {x : String} : RelD R α H (.ty x) (.ty x) := by unfold RelD; rfl
theorem RelD.tup {xs : List D} {a : Addr} {vs : List V} (h : SqT R.K H a vs) (t : RelDs R α H xs vs) : RelD R α H (.tup xs) (.ref a) := by unfold RelD; exact ⟨a, vs, rfl, h, t⟩
theorem RelD.ref {n : Nat} {a : Addr} (h : α[n]? = some a) : RelD R α H (.ref n) (.ref a) := by unfold RelD; exact ⟨a, h, rfl⟩
theorem RelD.gl {x : Str} {a : Addr} (h : R.mg x = some (.ref a)) : RelD R α H (.gl x) (.ref a) := by unfold RelD; exact ⟨a, h, rfl⟩
end

/-! ### the heap -/
def RelO (R : Rx) (α : List Addr) (H : Hp) : Ob → Addr → Prop
  | .lst xs, a => ∃ vs, H a = some (.lst vs) ∧ RelDs R α H xs vs
  | .fro xs, a => ∃ vs ob, H a = some (.frz ob (.lst vs)) ∧ RelDs R α H xs vs
  | .dic kvs, a => ∃ vs, H a = some (.dK vs) ∧ RelKs R α H kvs vs
structure RH (R : Rx) (α : List Addr) (h : Hd) (H : Hp) : Prop where
  len : α.length = h.length
  nd : α.Nodup
  obj : ∀ (n : Nat) (o : Ob), h[n]? = some o → ∃ a, α[n]? = some a ∧ RelO R α H o a
def RelEnv (R : Rx) (α : List Addr) (H : Hp) (env : En) (σ : St) : Prop :=
  env.length = σ.length ∧ ∀ (i : Nat) (d : D), env[i]? = some (some d) → ∃ v, σ[i]? = some (some v) ∧ RelD R α H d v
section
variable {R : Rx} {α α' : List Addr} {H H' : Hp} {h : Hd} {env : En} {σ : St}
theorem RelEnv.ext (r : RelEnv R α H env σ) (e : Ext α H α' H') : RelEnv R α' H' env σ := ⟨r.1, fun i d q => by
  obtain ⟨v, h1, h2⟩ := r.2 i d q
  exact ⟨v, h1, RelD.ext e d v h2⟩⟩
theorem RelEnv.set (r : RelEnv R α H env σ) {i : Nat} {d : D} {v : V} (hd : RelD R α H d v) : RelEnv R α H (env.set i (some d)) (σ.set i (some v)) := by
  refine ⟨by rw [List.length_set, List.length_set]; exact r.1, fun j d' q => ?_⟩
  by_cases hj : i = j
  · subst hj
    by_cases hi : i < env.length
    · rw [List.getElem?_set_self hi] at q
      cases q
      exact ⟨v, List.getElem?_set_self (by rw [← r.1]; exact hi), hd⟩
    · rw [List.getElem?_eq_none (by simpa using hi)] at q
      cases q
  · rw [List.getElem?_set_ne hj] at q
    obtain ⟨u, h1, h2⟩ := r.2 j d' q
    exact ⟨u, by rw [List.getElem?_set_ne hj]; exact h1, h2⟩
theorem RelEnv.clear (r : RelEnv R α H env σ) {i : Nat} : RelEnv R α H (env.set i none) (σ.set i none) := by
  refine ⟨by rw [List.length_set, List.length_set]; exact r.1, fun j d' q => ?_⟩
  by_cases hj : i = j
  · subst hj
    by_cases hi : i < env.length
    · rw [List.getElem?_set_self hi] at q
      cases q
    · rw [List.getElem?_eq_none (by simpa using hi)] at q
      cases q
  · rw [List.getElem?_set_ne hj] at q
    obtain ⟨u, h1, h2⟩ := r.2 j d' q
    exact ⟨u, by rw [List.getElem?_set_ne hj]; exact h1, h2⟩
theorem RelO.some {o : Ob} {a : Addr} (r : RelO R α H o a) : ∃ ho, H a = some ho := by
  cases o with
  | lst xs => obtain ⟨vs, e, _⟩ := r; exact ⟨_, e⟩
  | fro xs => obtain ⟨vs, ob, e, _⟩ := r; exact ⟨_, e⟩
  | dic kvs => obtain ⟨vs, e, _⟩ := r; exact ⟨_, e⟩
theorem RelO.ext {o : Ob} {a : Addr} (r : RelO R α H o a) (e : Ext α H α' H') (k : H' a = H a) : RelO R α' H' o a := by
  cases o with
  | lst xs => obtain ⟨vs, q, t⟩ := r; exact ⟨vs, k.trans q, RelDs.ext e _ _ t⟩
  | fro xs => obtain ⟨vs, ob, q, t⟩ := r; exact ⟨vs, ob, k.trans q, RelDs.ext e _ _ t⟩
  | dic kvs => obtain ⟨vs, q, t⟩ := r; exact ⟨vs, k.trans q, RelKs.ext e _ _ t⟩
theorem RH.at (r : RH R α h H) {n : Nat} {a : Addr} (e : α[n]? = some a) : ∃ o, h[n]? = some o ∧ RelO R α H o a := by
  have hn : n < α.length := (List.getElem?_eq_some_iff.mp e).1
  have hn' : n < h.length := by rw [← r.len]; exact hn
  obtain ⟨b, e1, e2⟩ := r.obj n h[n] (List.getElem?_eq_getElem hn')
  rw [e] at e1
  cases e1
  exact ⟨h[n], List.getElem?_eq_getElem hn', e2⟩
theorem RH.fresh (r : RH R α h H) {p : Addr} (hp : H p = none) : p ∉ α := fun hm => by
  obtain ⟨n, e⟩ := List.getElem?_of_mem hm
  obtain ⟨o, _, ro⟩ := r.at e
  obtain ⟨ho, e2⟩ := ro.some
  rw [hp] at e2
  cases e2
/-- an untracked thing is laid beside (a tuple, an exception's dict) -/
theorem Ext.side {p : Addr} {o : HO} (hp : H p = none) : Ext α H α (upd H p o) := ⟨⟨[], by simp⟩, fun a u e _ => by
  rw [upd_ne (ne_of_none e hp)]; exact e⟩
theorem RH.side (r : RH R α h H) {p : Addr} {o : HO} (hp : H p = none) : RH R α h (upd H p o) := ⟨r.len, r.nd, fun n ob e => by
  obtain ⟨a, h1, h2⟩ := r.obj n ob e
  obtain ⟨ho, h3⟩ := h2.some
  exact ⟨a, h1, h2.ext (Ext.side hp) (upd_ne (ne_of_none h3 hp))⟩⟩
/-- a new object of ours -/
theorem Ext.new {p : Addr} {o : HO} (hp : H p = none) : Ext α H (α ++ [p]) (upd H p o) := ⟨⟨[p], rfl⟩, fun a u e _ => by
  rw [upd_ne (ne_of_none e hp)]; exact e⟩
theorem RH.new (r : RH R α h H) {p : Addr} {o : HO} {ob : Ob} (hp : H p = none) (n : RelO R (α ++ [p]) (upd H p o) ob p) : RH R (α ++ [p]) (h ++ [ob]) (upd H p o) := by
  refine ⟨by rw [List.length_append, List.length_append, r.len]; rfl, ?_, fun m ob' e => ?_⟩
  · rw [List.nodup_append]
    refine ⟨r.nd, by simp, fun a ha b hb => ?_⟩
    have : b = p := by simpa using hb
    subst this
    exact fun e => r.fresh hp (e ▸ ha)
  · by_cases hm : m < h.length
    · rw [List.getElem?_append_left hm] at e
      obtain ⟨a, h1, h2⟩ := r.obj m ob' e
      obtain ⟨ho, h3⟩ := h2.some
      exact ⟨a, (Ext.new (o := o) hp).get h1, h2.ext (Ext.new hp) (upd_ne (ne_of_none h3 hp))⟩
    · have hm2 : m = h.length := by
        have := (List.getElem?_eq_some_iff.mp e).1
        rw [List.length_append] at this
        simp at this
        omega
      subst hm2
      rw [List.getElem?_append_right (Nat.le_refl _)] at e
      simp at e
      subst e
      exact ⟨p, by rw [← r.len, List.getElem?_append_right (Nat.le_refl _)]; simp, n⟩
theorem RH.new_at (r : RH R α h H) {p : Addr} : (α ++ [p])[h.length]? = some p := by
  rw [← r.len, List.getElem?_append_right (Nat.le_refl _)]; simp
/-- an object of ours is written -/
def MutO : HO → Prop
  | .lst _ => True
  | .dK _ => True
  | _ => False
theorem Ext.write {a : Addr} {o u : HO} (ha : H a = some u) (hm : MutO u) : Ext α H α (upd H a o) := ⟨⟨[], by simp⟩, fun b v e s => by
  have : b ≠ a := fun z => by
    subst z
    rw [ha] at e
    cases e
    cases u <;> first | exact hm | exact s
  rw [upd_ne this]; exact e⟩
theorem RH.write (r : RH R α h H) {n : Nat} {a : Addr} {o u : HO} {ob : Ob} (hn : α[n]? = some a) (ha : H a = some u) (hm : MutO u) (w : RelO R α (upd H a o) ob a) : RH R α (h.set n ob) (upd H a o) := by
  refine ⟨by rw [List.length_set]; exact r.len, r.nd, fun m ob' e => ?_⟩
  by_cases hmn : n = m
  · subst hmn
    have hl : n < h.length := by rw [← r.len]; exact (List.getElem?_eq_some_iff.mp hn).1
    rw [List.getElem?_set_self hl] at e
    cases e
    exact ⟨a, hn, w⟩
  · rw [List.getElem?_set_ne hmn] at e
    obtain ⟨b, h1, h2⟩ := r.obj m ob' e
    have hb : b ≠ a := fun z => by
      subst z
      obtain ⟨l1, e1⟩ := List.getElem?_eq_some_iff.mp hn
      obtain ⟨l2, e2⟩ := List.getElem?_eq_some_iff.mp h1
      exact hmn ((List.getElem_inj r.nd).mp (e1.trans e2.symm))
    exact ⟨b, h1, h2.ext (Ext.write ha hm) (upd_ne hb)⟩
end

/-! ### the judgements -/
def RelX (R : Rx) (α : List Addr) (H : Hp) (e : Exn) (cls : Value) (dd : Addr) : Prop :=
  ∃ C v', R.mg e.c = some (.ref C) ∧ cls = .ref C ∧ H dd = some (.xd [(e.f, v')]) ∧ RelD R α H e.v v'
def Fin {A B : Type} (Rl : List Addr → Hp → A → B → Prop) (R : Rx) (W : WX) (α : List Addr) (H : Hp) (σ : St) (r : Res A) (Q : B → Hp → Prop) : Prop := match r with
  | .ok d h' => ∀ α' H' v, Ext α H α' H' → RH R α' h' H' → Rl α' H' d v → Q v H'
  | .ex e h' => ∀ α' H' cls dd, Ext α H α' H' → RH R α' h' H' → RelX R α' H' e cls dd → W cls (some dd) σ H'
  | .no => False
abbrev FinE (R : Rx) := Fin (RelD R) R
abbrev FinA (R : Rx) := Fin (RelDs R) R
abbrev FinT (R : Rx) := Fin (fun _ _ (a b : Bool) => a = b) R
theorem Fin.mono {A B : Type} {Rl : List Addr → Hp → A → B → Prop} {R : Rx} {W : WX} {α α' : List Addr} {H H' : Hp} {σ : St} {r : Res A} {Q : B → Hp → Prop} (f : Fin Rl R W α H σ r Q) (e : Ext α H α' H') : Fin Rl R W α' H' σ r Q := by
  cases r with
  | ok d h => exact fun α2 H2 v e2 => f α2 H2 v (e.trans e2)
  | ex x h => exact fun α2 H2 c dd e2 => f α2 H2 c dd (e.trans e2)
  | no => exact f
theorem Fin.split {A B C E : Type} {Rl : List Addr → Hp → A → B → Prop} {Rm : List Addr → Hp → C → E → Prop} {R : Rx} {W : WX} {α : List Addr} {H : Hp} {σ : St} {r : Res A} {g : A → Hd → Res C} {Q : E → Hp → Prop} (f : Fin Rm R W α H σ (r.bind g) Q) :
    Fin Rl R W α H σ r (fun v H1 => ∃ d α1 h1, r = .ok d h1 ∧ Ext α H α1 H1 ∧ RH R α1 h1 H1 ∧ Rl α1 H1 d v ∧ Fin Rm R W α1 H1 σ (g d h1) Q) := by
  cases r with
  | ok d h => exact fun α' H' v e rh rl => ⟨d, α', h, rfl, e, rh, rl, Fin.mono (r := g d h) f e⟩
  | ex x h => exact f
  | no => exact f
theorem Fin.imp {A B : Type} {Rl : List Addr → Hp → A → B → Prop} {R : Rx} {W : WX} {α : List Addr} {H : Hp} {σ : St} {r : Res A} {Q Q' : B → Hp → Prop} (f : Fin Rl R W α H σ r Q) (q : ∀ v H, Q v H → Q' v H) : Fin Rl R W α H σ r Q' := by
  cases r with
  | ok d h => exact fun α2 H2 v e2 r2 l2 => q _ _ (f α2 H2 v e2 r2 l2)
  | ex x h => exact f
  | no => exact f
abbrev Fe := En → Hd → Res D
abbrev Fa := En → Hd → Res (List D)
abbrev Ft := En → Hd → Res Bool
def tE (R : Rx) (W : WX) (f : Fe) : TE := fun σ H Q => ∃ α env h, RelEnv R α H env σ ∧ RH R α h H ∧ FinE R W α H σ (f env h) Q
def tA (R : Rx) (W : WX) (f : Fa) : TA := fun σ H Q => ∃ α env h, RelEnv R α H env σ ∧ RH R α h H ∧ FinA R W α H σ (f env h) Q
def tT (R : Rx) (W : WX) (f : Ft) : TT := fun σ H Q => ∃ α env h, RelEnv R α H env σ ∧ RH R α h H ∧ FinT R W α H σ (f env h) Q
abbrev DE (X : Cx) (R : Rx) (W : WX) (e : Expr) (f : Fe) : Prop := PE X e (tE R W f)
abbrev DA (X : Cx) (R : Rx) (W : WX) (es : List Expr) (f : Fa) : Prop := PA X es (tA R W f)
abbrev DT (X : Cx) (R : Rx) (W : WX) (e : Expr) (f : Ft) : Prop := PT X e (tT R W f)
abbrev DW (X : Cx) (R : Rx) (W : WX) (e : Expr) (f : Ft) : Prop := PW X e (tT R W f)

/-! ### names, constants -/
@[simp] def eVar (i : Nat) : Fe := fun env h => match env[i]? with
  | some (some d) => .ok d h
  | _ => .no
@[simp] def eC (d : D) : Fe := fun _ h => .ok d h
section
variable {X : Cx} {R : Rx} {W : WX} {pos : Pos}
theorem de_var (i : Nat) {x : Str} (hN : X.N[i]? = some x := by rfl) (hv : Vis X.env.scope x := by first | exact Or.inl rfl | exact Or.inr (Or.inl rfl) | exact Or.inr (Or.inr rfl)) (hd : (x == ("__debug__" : Str)) = false := by decide)
    (hcd : (x == ("__classdict__" : Str)) = false := by decide) : DE X R W (.Name x pos) (eVar i) := by
  refine ⟨fun pins s σ H Q I h => ?_⟩
  obtain ⟨α, env, hp, re, rh, f⟩ := h
  unfold eVar at f
  cases e : env[i]? with
  | none => rw [e] at f; exact f.elim
  | some od =>
    cases od with
    | none => rw [e] at f; exact f.elim
    | some d =>
      rw [e] at f
      obtain ⟨v, h1, h2⟩ := re.2 i d e
      exact (pe_var (pos := pos) hN hv hd hcd).run pins s σ H Q I ⟨v, h1, f α H v .refl rh h2⟩
theorem de_const {e : Expr} {v : V} {d : D} (h : PE X e (tC v)) (r : ∀ α H, RelD R α H d v) : DE X R W e (eC d) := by
  refine ⟨fun pins s σ H Q I q => ?_⟩
  obtain ⟨α, env, hp, re, rh, f⟩ := q
  exact h.run pins s σ H Q I (f α H v .refl rh (r α H))
theorem de_int {i j} : DE X R W (.Constant (.int i) j pos) (eC (.int i)) := de_const pe_int fun _ _ => .int
theorem de_bl {b j} : DE X R W (.Constant (.bool b) j pos) (eC (.bl b)) := de_const pe_bl fun _ _ => .bl
theorem de_non {j} : DE X R W (.Constant .none j pos) (eC .non) := de_const pe_non fun _ _ => .non
theorem de_str {x j} : DE X R W (.Constant (.str x) j pos) (eC (.str x)) := de_const pe_str fun _ _ => .str
/-- a def or a class of the module as a value -/
theorem de_gl {x : Str} (hg : Gl X x) (hR : R.mg = X.mg) (hm : ∃ a, X.mg x = some (.ref a)) (hd : (x == ("__debug__" : Str)) = false := by decide) : DE X R W (.Name x pos) (eC (.gl x)) := by
  obtain ⟨a, hm⟩ := hm
  exact de_const (pe_glob (v := .ref a) hg hm rfl hd) fun _ _ => .gl (by rw [hR]; exact hm)
theorem de_gint {x : Str} {i : Int} (hg : Gl X x) (hm : ∃ t, X.mg x = some (.int i t)) (hd : (x == ("__debug__" : Str)) = false := by decide) : DE X R W (.Name x pos) (eC (.int i)) := by
  obtain ⟨t, hm⟩ := hm
  exact de_const (pe_glob (v := .int i) hg hm ⟨t, rfl⟩ hd) fun _ _ => .int
theorem de_gstr {x z : Str} (hg : Gl X x) (hm : ∃ t, X.mg x = some (.str z t)) (hd : (x == ("__debug__" : Str)) = false := by decide) : DE X R W (.Name x pos) (eC (.str z)) := by
  obtain ⟨t, hm⟩ := hm
  exact de_const (pe_glob (v := .str z) hg hm ⟨t, rfl⟩ hd) fun _ _ => .str
theorem de_type {x : Str} {n : String} (hg : Gl X x) (hm : X.mg x = none) (hv : bootBuiltins x = some (.type n)) (hn : x ≠ "__name__" := by decide) (hd : (x == ("__debug__" : Str)) = false := by decide) : DE X R W (.Name x pos) (eC (.ty n)) :=
  de_const (pe_bltn (v := .ty n) hg hm hv rfl hn hd) fun _ _ => .ty
end

/-! ### operators -/
def OpD (X : Cx) (R : Rx) (f : Value → Value → Sem Value) (g : D → D → Hd → Res D) : Prop :=
  ∀ (x y : D) (α : List Addr) (h : Hd) (H : Hp) (vx vy : V) (W : WX) (σ : St) (Q : VK), RH R α h H → RelD R α H x vx → RelD R α H y vy → FinE R W α H σ (g x y h) Q → ∃ r, OpR X f r ∧ r vx vy H Q
@[simp] def eOp (g : D → D → Hd → Res D) (fa fb : Fe) : Fe := fun env h => (fa env h).bind fun x h1 => (fb env h1).bind fun y h2 => g x y h2
@[simp] def eUn (g : D → Hd → Res D) (fa : Fe) : Fe := fun env h => (fa env h).bind g
def UnD (X : Cx) (R : Rx) (f : Value → Sem Value) (g : D → Hd → Res D) : Prop :=
  ∀ (x : D) (α : List Addr) (h : Hd) (H : Hp) (vx : V) (W : WX) (σ : St) (Q : VK), RH R α h H → RelD R α H x vx → FinE R W α H σ (g x h) Q → ∃ r, UnR X f r ∧ r vx H Q
section
variable {X : Cx} {R : Rx} {W : WX} {a b c : Expr} {fa fb fc : Fe} {pos : Pos}
theorem d_bin {f : Value → Value → Sem Value} {g : D → D → Hd → Res D} (ho : OpD X R f g) (ha : DE X R W a fa) (hb : DE X R W b fb) {pins : List (Addr × Obj)} {s : Shared} {σ : St} {H : Hp} {Q : VK} (I : Inv X pins σ H s) (h : tE R W (eOp g fa fb) σ H Q) :
    wpAny (model X.prog X.w) X.A (eval a X.env) (fun v s₁ => wpAny (model X.prog X.w) X.A (eval b X.env) (fun u s₂ => wpAny (model X.prog X.w) X.A (f v u) (EP X pins σ Q) X.xe s₂) X.xe s₁) X.xe s := by
  obtain ⟨α, env, hp, re, rh, fi⟩ := h
  refine thn (ha.run pins s σ H _ I ⟨α, env, hp, re, rh, fi.split⟩) fun v s1 ⟨x, H1, I1, r1, q1⟩ => ?_
  obtain ⟨d, α1, h1, _, x1, rh1, rd1, f1⟩ := q1
  refine thn (hb.run pins s1 σ H1 _ I1 ⟨α1, env, h1, re.ext x1, rh1, f1.split⟩) fun u s2 ⟨y, H2, I2, r2, q2⟩ => ?_
  obtain ⟨d2, α2, h2, _, x2, rh2, rd2, f2⟩ := q2
  obtain ⟨r, hr, q⟩ := ho _ _ _ _ _ _ _ _ _ _ rh2 (RelD.ext x2 _ _ rd1) rd2 f2
  exact hr pins s2 σ H2 x y v u Q I2 r1 r2 q
theorem de_op {op : Operator} {g : D → D → Hd → Res D} (ho : OpD X R (binaryOp op) g) (ha : DE X R W a fa) (hb : DE X R W b fb) : DE X R W (.BinOp a op b pos) (eOp g fa fb) :=
  ⟨fun pins s σ H Q I h => wpAny_BinOp (d_bin ho ha hb I h)⟩
theorem de_cmp {op : CmpOp} {g : D → D → Hd → Res D} (ho : OpD X R (compareOp op) g) (ha : DE X R W a fa) (hb : DE X R W b fb) (hm : behindInMarks op b = false) : DE X R W (.Compare a [op] [b] pos) (eOp g fa fb) :=
  ⟨fun pins s σ H Q I h => wpAny_Compare1 (d_bin ho ha hb I h) hm⟩
theorem de_un {op : UnaryOp} {g : D → Hd → Res D} (ho : UnD X R (unaryOp op) g) (ha : DE X R W a fa) : DE X R W (.UnaryOp op a pos) (eUn g fa) := by
  refine ⟨fun pins s σ H Q I h => ?_⟩
  obtain ⟨α, env, hp, re, rh, fi⟩ := h
  refine UnaryOp_ (thn (ha.run pins s σ H _ I ⟨α, env, hp, re, rh, Fin.split (g := g) fi⟩) fun v s1 ⟨x, H1, I1, r1, q1⟩ => ?_)
  obtain ⟨d, α1, h1, _, x1, rh1, rd1, f1⟩ := q1
  obtain ⟨r, hr, q⟩ := ho _ _ _ _ _ _ _ _ rh1 rd1 f1
  exact hr pins s1 σ H1 x v Q I1 r1 q
/-! ### tests -/
@[simp] def toB : D → Hd → Res Bool := fun d h => match d with
  | .bl b => .ok b h
  | _ => .no
@[simp] def tOf (f : Fe) : Ft := fun env h => (f env h).bind toB
/-- a value that is a bool, as a test -/
theorem dt_val (ha : DE X R W a fa) (he : ∀ whole, isTrue a X.env whole = (do let v ← whole; standAt a.pos; holding [v] (truthy v)) := by intro _; rfl) : DT X R W a (tOf fa) := by
  refine ⟨fun pins s σ H Q I h => ?_⟩
  obtain ⟨α, env, hp, re, rh, fi⟩ := h
  refine (pt_val ha he).run pins s σ H Q I ⟨α, env, hp, re, rh, (Fin.split (g := toB) fi).imp fun v H1 hq => ?_⟩
  obtain ⟨d, α1, h1, _, x1, rh1, rd1, f1⟩ := hq
  cases d with
  | bl k => exact ⟨k, rd1.bl_inv, f1 α1 H1 k .refl rh1 rfl⟩
  | _ => exact (show False from f1).elim
theorem dt_cmp {op : CmpOp} {g : D → D → Hd → Res D} (ho : OpD X R (compareOp op) g) (ha : DE X R W a fa) (hb : DE X R W b fb) (hm : behindInMarks op b = false) : DT X R W (.Compare a [op] [b] pos) (tOf (eOp g fa fb)) := by
  refine ⟨fun pins s σ H Q I h => ?_⟩
  obtain ⟨α, env, hp, re, rh, fi⟩ := h
  refine wpAny_isTrue_Compare1 (thn (d_bin (Q := fun v H1 => ∃ c, v = .bl c ∧ Q c H1) ho ha hb I ⟨α, env, hp, re, rh, (Fin.split (g := toB) fi).imp fun v H1 hq => ?_⟩) fun v s1 h1 => thn h1 fun u s2 h2 => thn h2 fun c s3 ⟨x, H1, I1, r1, q1⟩ => ?_) hm
  · obtain ⟨d, α1, h1, _, x1, rh1, rd1, f1⟩ := hq
    cases d with
    | bl k => exact ⟨k, rd1.bl_inv, f1 α1 H1 k .refl rh1 rfl⟩
    | _ => exact (show False from f1).elim
  · obtain ⟨d, rfl, q⟩ := q1
    cases r1
    exact wpAny_truthy_bool ⟨H1, I1, q⟩
@[simp] def tAndD (f g : Ft) : Ft := fun env h => (f env h).bind fun c h1 => if c = true then g env h1 else .ok false h1
@[simp] def tOrD (f g : Ft) : Ft := fun env h => (f env h).bind fun c h1 => if c = true then .ok true h1 else g env h1
@[simp] def tNotD (f : Ft) : Ft := fun env h => (f env h).bind fun c h1 => .ok (!c) h1
variable {ta tb : Ft} {rest : List Expr}
theorem dw_and1 (ha : DT X R W a ta) : DW X R W (.BoolOp .And [a] pos) ta := pw_and1 ha
theorem dw_or1 (ha : DT X R W a ta) : DW X R W (.BoolOp .Or [a] pos) ta := pw_or1 ha
theorem dw_and (ha : DT X R W a ta) (hb : DW X R W (.BoolOp .And (b :: rest) pos) tb) : DW X R W (.BoolOp .And (a :: b :: rest) pos) (tAndD ta tb) := by
  refine ⟨fun wh pins s σ H Q I h => (pw_and ha hb).run wh pins s σ H Q I ?_⟩
  obtain ⟨α, env, hp, re, rh, fi⟩ := h
  refine ⟨α, env, hp, re, rh, (Fin.split fi).imp fun c H1 hq => ?_⟩
  obtain ⟨d, α1, h1, _, x1, rh1, rd1, f1⟩ := hq
  have rd1 : d = c := rd1
  subst rd1
  cases d with
  | true => exact ⟨α1, env, h1, re.ext x1, rh1, f1⟩
  | false => exact f1 α1 H1 false .refl rh1 rfl
theorem dw_or (ha : DT X R W a ta) (hb : DW X R W (.BoolOp .Or (b :: rest) pos) tb) : DW X R W (.BoolOp .Or (a :: b :: rest) pos) (tOrD ta tb) := by
  refine ⟨fun wh pins s σ H Q I h => (pw_or ha hb).run wh pins s σ H Q I ?_⟩
  obtain ⟨α, env, hp, re, rh, fi⟩ := h
  refine ⟨α, env, hp, re, rh, (Fin.split fi).imp fun c H1 hq => ?_⟩
  obtain ⟨d, α1, h1, _, x1, rh1, rd1, f1⟩ := hq
  have rd1 : d = c := rd1
  subst rd1
  cases d with
  | false => exact ⟨α1, env, h1, re.ext x1, rh1, f1⟩
  | true => exact f1 α1 H1 true .refl rh1 rfl
theorem dt_bool (h : DW X R W a ta) : DT X R W a ta := h.pt
theorem dt_not (ha : DT X R W a ta) : DT X R W (.UnaryOp .Not a pos) (tNotD ta) := by
  refine ⟨fun pins s σ H Q I h => (pt_not ha).run pins s σ H Q I ?_⟩
  obtain ⟨α, env, hp, re, rh, fi⟩ := h
  refine ⟨α, env, hp, re, rh, (Fin.split fi).imp fun c H1 hq => ?_⟩
  obtain ⟨d, α1, h1, _, x1, rh1, rd1, f1⟩ := hq
  have rd1 : d = c := rd1
  subst rd1
  exact f1 α1 H1 _ .refl rh1 rfl
/-! ### and, or, not as values: bools on the left -/
@[simp] def eAnd (fa fb : Fe) : Fe := fun env h => (fa env h).bind fun x h1 => match x with
  | .bl true => fb env h1
  | .bl false => .ok (.bl false) h1
  | _ => .no
@[simp] def eOr (fa fb : Fe) : Fe := fun env h => (fa env h).bind fun x h1 => match x with
  | .bl false => fb env h1
  | .bl true => .ok (.bl true) h1
  | _ => .no
@[simp] def eNot (fa : Fe) : Fe := fun env h => (fa env h).bind fun x h1 => match x with
  | .bl b => .ok (.bl (!b)) h1
  | _ => .no
theorem de_one {op} (h : DE X R W a fa) : DE X R W (.BoolOp op [a] pos) fa := pe_one h
theorem de_and (ha : DE X R W a fa) (hb : DE X R W (.BoolOp .And (b :: rest) pos) fb) : DE X R W (.BoolOp .And (a :: b :: rest) pos) (eAnd fa fb) := by
  refine ⟨fun pins s σ H Q I h => (pe_and ha hb).run pins s σ H Q I ?_⟩
  obtain ⟨α, env, hp, re, rh, fi⟩ := h
  refine ⟨α, env, hp, re, rh, (Fin.split fi).imp fun c H1 hq => ?_⟩
  obtain ⟨d, α1, h1, _, x1, rh1, rd1, f1⟩ := hq
  cases d with
  | bl k =>
    refine ⟨k, rd1.bl_inv, ?_⟩
    cases k with
    | true => exact ⟨α1, env, h1, re.ext x1, rh1, f1⟩
    | false => exact f1 α1 H1 _ .refl rh1 .bl
  | _ => exact (show False from f1).elim
theorem de_or (ha : DE X R W a fa) (hb : DE X R W (.BoolOp .Or (b :: rest) pos) fb) : DE X R W (.BoolOp .Or (a :: b :: rest) pos) (eOr fa fb) := by
  refine ⟨fun pins s σ H Q I h => (pe_or ha hb).run pins s σ H Q I ?_⟩
  obtain ⟨α, env, hp, re, rh, fi⟩ := h
  refine ⟨α, env, hp, re, rh, (Fin.split fi).imp fun c H1 hq => ?_⟩
  obtain ⟨d, α1, h1, _, x1, rh1, rd1, f1⟩ := hq
  cases d with
  | bl k =>
    refine ⟨k, rd1.bl_inv, ?_⟩
    cases k with
    | false => exact ⟨α1, env, h1, re.ext x1, rh1, f1⟩
    | true => exact f1 α1 H1 _ .refl rh1 .bl
  | _ => exact (show False from f1).elim
theorem de_not (ha : DE X R W a fa) : DE X R W (.UnaryOp .Not a pos) (eNot fa) := by
  refine ⟨fun pins s σ H Q I h => (pe_not ha).run pins s σ H Q I ?_⟩
  obtain ⟨α, env, hp, re, rh, fi⟩ := h
  refine ⟨α, env, hp, re, rh, (Fin.split fi).imp fun c H1 hq => ?_⟩
  obtain ⟨d, α1, h1, _, x1, rh1, rd1, f1⟩ := hq
  cases d with
  | bl k => exact ⟨k, rd1.bl_inv, f1 α1 H1 _ .refl rh1 .bl⟩
  | _ => exact (show False from f1).elim
@[simp] def eIf (ft : Ft) (fa fb : Fe) : Fe := fun env h => (ft env h).bind fun c h1 => if c = true then fa env h1 else fb env h1
theorem de_if {tc : Ft} (hc : DT X R W c tc) (ha : DE X R W a fa) (hb : DE X R W b fb) : DE X R W (.IfExp c a b pos) (eIf tc fa fb) := by
  refine ⟨fun pins s σ H Q I h => (pe_ifExp hc ha hb).run pins s σ H Q I ?_⟩
  obtain ⟨α, env, hp, re, rh, fi⟩ := h
  refine ⟨α, env, hp, re, rh, (Fin.split fi).imp fun c H1 hq => ?_⟩
  obtain ⟨d, α1, h1, _, x1, rh1, rd1, f1⟩ := hq
  have rd1 : d = c := rd1
  subst rd1
  cases d with
  | true => exact ⟨α1, env, h1, re.ext x1, rh1, f1⟩
  | false => exact ⟨α1, env, h1, re.ext x1, rh1, f1⟩
/-! ### a chain of two comparisons -/
@[simp] def eChain (g g' : D → D → Hd → Res D) (fa fb fc : Fe) : Fe := fun env h => (fa env h).bind fun x h1 => (fb env h1).bind fun y h2 => (g x y h2).bind fun z h3 => match z with
  | .bl true => (fc env h3).bind fun u h4 => g' y u h4
  | .bl false => .ok (.bl false) h3
  | _ => .no
end
end Mi

set_option Elab.async false
set_option linter.all false
set_option maxRecDepth 100000
set_option maxHeartbeats 1000000
namespace Mi
open PySem PySem.Spec PyProof.Rows L2

/-! ### targets -/
def Keep (ts : List Nat) (σ s : St) : Prop := s.length = σ.length ∧ ∀ i, i ∉ ts → s[i]? = σ[i]?
abbrev Fg := D → En → Hd → Option (En × Hd)
abbrev Fgs := List D → En → Hd → Option (En × Hd)
def FinG (R : Rx) (ts : List Nat) (σ : St) (α : List Addr) (H : Hp) (r : Option (En × Hd)) (Q : St → Hp → Prop) : Prop := match r with
  | some (env', h') => ∀ α' H' s, Ext α H α' H' → RH R α' h' H' → RelEnv R α' H' env' s → Keep ts σ s → Q s H'
  | none => False
def tG (R : Rx) (ts : List Nat) (f : Fg) : TG := fun v σ H Q => ∃ α env h d, RelEnv R α H env σ ∧ RH R α h H ∧ RelD R α H d v ∧ FinG R ts σ α H (f d env h) Q
def tGs (R : Rx) (ts : List Nat) (f : Fgs) : TGs := fun vs σ H Q => ∃ α env h ds, RelEnv R α H env σ ∧ RH R α h H ∧ RelDs R α H ds vs ∧ FinG R ts σ α H (f ds env h) Q
abbrev DG (X : Cx) (R : Rx) (tg : Expr) (ts : List Nat) (f : Fg) : Prop := PG X tg (tG R ts f)
abbrev DGs (X : Cx) (R : Rx) (tgs : List Expr) (ts : List Nat) (f : Fgs) : Prop := PGs X tgs (tGs R ts f)
@[simp] def gSet (i : Nat) : Fg := fun d env h => if i < env.length then some (env.set i (some d), h) else none
@[simp] def gsNil : Fgs := fun ds env h => match ds with
  | [] => some (env, h)
  | _ => none
@[simp] def gsCons (f : Fg) (g : Fgs) : Fgs := fun ds env h => match ds with
  | d :: r => (match f d env h with
    | some (env1, h1) => g r env1 h1
    | none => none)
  | [] => none
/-- a tuple or a list of just so many -/
@[simp] def gUnp (n : Nat) (g : Fgs) : Fg := fun d env h => match d with
  | .tup xs => if xs.length = n then g xs env h else none
  | .ref k => (match h[k]? with
    | some (.lst xs) => if xs.length = n then g xs env h else none
    | _ => none)
  | _ => none
section
variable {X : Cx} {R : Rx} {pos : Pos}
theorem Keep.refl {ts : List Nat} {σ : St} : Keep ts σ σ := ⟨rfl, fun _ _ => rfl⟩
theorem Keep.trans {ts us : List Nat} {σ s t : St} (a : Keep ts σ s) (b : Keep us s t) : Keep (ts ++ us) σ t :=
  ⟨b.1.trans a.1, fun i hi => by
    rw [List.mem_append, not_or] at hi
    exact (b.2 i hi.2).trans (a.2 i hi.1)⟩
theorem dg_name (i : Nat) {x : Str} (hN : X.N.Nodup) (hi : X.N[i]? = some x := by rfl) (hx : Loc X.env.scope x := by first | exact Or.inl rfl | exact Or.inr rfl) (hf : X.fn x = true ∨ X.env.scope.names.lookup x = some .local := by first | exact .inl rfl | exact .inr rfl | assumption) : DG X R (.Name x pos) [i] (gSet i) := by
  refine ⟨fun pins s σ H v u Q I r h => (pg_name (pos := pos) hN hi hx hf).run pins s σ H v u Q I r ?_⟩
  obtain ⟨α, env, hp, d, re, rh, rd, f⟩ := h
  unfold gSet at f
  split at f
  · exact f α H _ .refl rh (re.set rd) ⟨by rw [List.length_set], fun j hj => List.getElem?_set_ne (fun e => hj (by simp [e]))⟩
  · exact f.elim
theorem dgs_nil : DGs X R [] [] gsNil := by
  refine ⟨fun pins s σ H vs us Q I r h => pgs_nil.run pins s σ H vs us Q I r ?_⟩
  obtain ⟨α, env, hp, ds, re, rh, rd, f⟩ := h
  cases ds with
  | nil => exact ⟨rd.nil_inv, f α H σ .refl rh re .refl⟩
  | cons _ _ => exact (show False from f).elim
theorem dgs_cons {e : Expr} {es : List Expr} {ts us : List Nat} {f : Fg} {g : Fgs} (h1 : DG X R e ts f) (h2 : DGs X R es us g) (hs : (assignEach (e :: es) X.env).map (·.2) = assign e X.env :: (assignEach es X.env).map (·.2) := by rfl) :
    DGs X R (e :: es) (ts ++ us) (gsCons f g) := by
  refine ⟨fun pins s σ H vs us' Q I r h => (pgs_cons h1 h2 hs).run pins s σ H vs us' Q I r ?_⟩
  obtain ⟨α, env, hp, ds, re, rh, rd, fi⟩ := h
  cases ds with
  | nil => exact (show False from fi).elim
  | cons d ds =>
    obtain ⟨v, r', ev, r1, r2⟩ := rd.cons_inv
    subst ev
    refine ⟨v, r', rfl, α, env, hp, d, re, rh, r1, ?_⟩
    have fi : FinG R (ts ++ us) σ α H (match f d env hp with
      | some (env1, h1) => g ds env1 h1
      | none => none) Q := fi
    cases e1 : f d env hp with
    | none => rw [e1] at fi; exact fi
    | some p =>
      obtain ⟨env1, hp1⟩ := p
      rw [e1] at fi
      intro α1 H1 σ1 x1 rh1 re1 k1
      refine ⟨α1, env1, hp1, ds, re1, rh1, RelDs.ext x1 _ _ r2, ?_⟩
      have fi : FinG R (ts ++ us) σ α H (g ds env1 hp1) Q := fi
      cases e2 : g ds env1 hp1 with
      | none => rw [e2] at fi; exact fi
      | some p2 =>
        obtain ⟨env2, hp2⟩ := p2
        rw [e2] at fi
        intro α2 H2 σ2 x2 rh2 re2 k2
        exact fi α2 H2 σ2 (x1.trans x2) rh2 re2 (k1.trans k2)
theorem dg_unp {es : List Expr} {k n : Nat} {ts : List Nat} {g : Fgs} (hR : R.K = X.K) (hc : X.calm = true) (h : DGs X R es ts g)
    (hn : (assignEach es X.env).length = n := by rfl) (hst : (assignEach es X.env).findIdx? (·.1) = none := by rfl) : DG X R (.Tuple es k pos) ts (gUnp n g) := by
  refine ⟨fun pins s σ H v u Q I r hw => ?_⟩
  obtain ⟨α, env, hp, d, re, rh, rd, fi⟩ := hw
  have fi : FinG R ts σ α H (gUnp n g d env hp) Q := fi
  cases d with
  | tup xs =>
    obtain ⟨a, vs, ev, hq, rs⟩ := rd.tup_inv
    unfold gUnp at fi
    dsimp only at fi
    split at fi
    · rename_i hl
      refine (pg_tup (pos := pos) (k := k) hc h hn hst).run pins s σ H v u Q I r ⟨a, vs, ev, hR ▸ hq, by rw [← rs.length]; exact hl, α, env, hp, xs, re, rh, rs, fi⟩
    · exact fi.elim
  | ref m =>
    obtain ⟨a, ea, ev⟩ := rd.ref_inv
    obtain ⟨o, eo, ro⟩ := rh.at ea
    unfold gUnp at fi
    dsimp only at fi
    rw [eo] at fi
    cases o with
    | lst xs =>
      obtain ⟨vs, hq, rs⟩ := ro
      dsimp only at fi
      split at fi
      · rename_i hl
        refine (pg_lst (pos := pos) (k := k) hc h hn hst).run pins s σ H v u Q I r ⟨a, vs, ev, SqL.of hq, by rw [← rs.length]; exact hl, α, env, hp, xs, re, rh, rs, fi⟩
      · exact fi.elim
    | _ => exact (show False from fi).elim
  | _ => exact (show False from fi).elim
end

/-! ### statements -/
inductive SRes where
  | nx (env : En) (h : Hd) | rt (d : D) (h : Hd) | bk (env : En) (h : Hd) | ct (env : En) (h : Hd) | ex (e : Exn) (env : En) (h : Hd) | no
abbrev Fs := En → Hd → SRes
def FinS (R : Rx) (W : WX) (α : List Addr) (H : Hp) (Dn : Ends) (r : SRes) : Prop := match r with
  | .nx env h => ∀ α' H' σ', Ext α H α' H' → RH R α' h H' → RelEnv R α' H' env σ' → Dn.nx σ' H'
  | .rt d h => ∀ α' H' v, Ext α H α' H' → RH R α' h H' → RelD R α' H' d v → Dn.rt v H'
  | .bk env h => ∀ α' H' σ', Ext α H α' H' → RH R α' h H' → RelEnv R α' H' env σ' → Dn.bk σ' H'
  | .ct env h => ∀ α' H' σ', Ext α H α' H' → RH R α' h H' → RelEnv R α' H' env σ' → Dn.ct σ' H'
  | .ex e env h => ∀ α' H' σ' cls dd, Ext α H α' H' → RH R α' h H' → RelEnv R α' H' env σ' → RelX R α' H' e cls dd → W cls (some dd) σ' H'
  | .no => False
def tS (R : Rx) (W : WX) (g : Fs) : TS := fun Dn σ H => ∃ α env h, RelEnv R α H env σ ∧ RH R α h H ∧ FinS R W α H Dn (g env h)
abbrev DS (X : Cx) (R : Rx) (W : WX) (st : Stmt) (g : Fs) : Prop := PS X st (tS R W g)
abbrev DSs (X : Cx) (R : Rx) (W : WX) (st : List Stmt) (g : Fs) : Prop := PSs X st (tS R W g)
theorem FinS.mono {R : Rx} {W : WX} {α α' : List Addr} {H H' : Hp} {Dn : Ends} {r : SRes} (f : FinS R W α H Dn r) (e : Ext α H α' H') : FinS R W α' H' Dn r := by
  cases r with
  | nx env h => exact fun α2 H2 σ2 e2 => f α2 H2 σ2 (e.trans e2)
  | rt d h => exact fun α2 H2 σ2 e2 => f α2 H2 σ2 (e.trans e2)
  | bk env h => exact fun α2 H2 σ2 e2 => f α2 H2 σ2 (e.trans e2)
  | ct env h => exact fun α2 H2 σ2 e2 => f α2 H2 σ2 (e.trans e2)
  | ex x env h => exact fun α2 H2 σ2 c dd e2 => f α2 H2 σ2 c dd (e.trans e2)
  | no => exact f
@[simp] def sNil : Fs := fun env h => .nx env h
@[simp] def sSeq (f g : Fs) : Fs := fun env h => match f env h with
  | .nx env1 h1 => g env1 h1
  | r => r
/-- an expression's value in a statement -/
@[simp] def sOf (f : Fe) (k : D → Fs) : Fs := fun env h => match f env h with
  | .ok d h1 => k d env h1
  | .ex e h1 => .ex e env h1
  | .no => .no
@[simp] def sTst (f : Ft) (k : Bool → Fs) : Fs := fun env h => match f env h with
  | .ok d h1 => k d env h1
  | .ex e h1 => .ex e env h1
  | .no => .no
@[simp] def sExpr (f : Fe) : Fs := sOf f fun _ env h => .nx env h
@[simp] def sRet (f : Fe) : Fs := sOf f fun d _ h => .rt d h
@[simp] def sRetN : Fs := fun _ h => .rt .non h
@[simp] def sIf (c : Ft) (f g : Fs) : Fs := sTst c fun b => if b = true then f else g
@[simp] def sAsg (f : Fe) (g : Fg) : Fs := sOf f fun d env h => match g d env h with
  | some (env1, h1) => .nx env1 h1
  | none => .no
@[simp] def sBrk : Fs := fun env h => .bk env h
@[simp] def sCont : Fs := fun env h => .ct env h
section
variable {X : Cx} {R : Rx} {W : WX} {pos : Pos} {e : Expr} {fe : Fe} {st : Stmt} {rest : List Stmt} {f g : Fs}
theorem finS_of {σ : St} {α : List Addr} {H : Hp} {Dn : Ends} {env : En} {h : Hd} {k : D → Fs} (re : RelEnv R α H env σ) (fi : FinS R W α H Dn (sOf fe k env h)) :
    FinE R W α H σ (fe env h) (fun v H1 => ∃ d α1 h1, fe env h = .ok d h1 ∧ Ext α H α1 H1 ∧ RH R α1 h1 H1 ∧ RelD R α1 H1 d v ∧ FinS R W α1 H1 Dn (k d env h1)) := by
  unfold sOf at fi
  cases er : fe env h with
  | ok d h1 => rw [er] at fi; exact fun α1 H1 v x1 rh1 r1 => ⟨d, α1, h1, rfl, x1, rh1, r1, FinS.mono (r := k d env h1) fi x1⟩
  | ex x h1 => rw [er] at fi; exact fun α1 H1 cls dd x1 rh1 r1 => fi α1 H1 σ cls dd x1 rh1 (re.ext x1) r1
  | no => rw [er] at fi; exact fi
theorem finS_tst {ft : Ft} {σ : St} {α : List Addr} {H : Hp} {Dn : Ends} {env : En} {h : Hd} {k : Bool → Fs} (re : RelEnv R α H env σ) (fi : FinS R W α H Dn (sTst ft k env h)) :
    FinT R W α H σ (ft env h) (fun v H1 => ∃ α1 h1, ft env h = .ok v h1 ∧ Ext α H α1 H1 ∧ RH R α1 h1 H1 ∧ FinS R W α1 H1 Dn (k v env h1)) := by
  unfold sTst at fi
  cases er : ft env h with
  | ok d h1 =>
    rw [er] at fi
    intro α1 H1 v x1 rh1 r1
    have r1 : d = v := r1
    subst r1
    exact ⟨α1, h1, rfl, x1, rh1, FinS.mono (r := k d env h1) fi x1⟩
  | ex x h1 => rw [er] at fi; exact fun α1 H1 cls dd x1 rh1 r1 => fi α1 H1 σ cls dd x1 rh1 (re.ext x1) r1
  | no => rw [er] at fi; exact fi
theorem dss_nil : DSs X R W [] sNil := ⟨fun pins s σ H D I h => pss_nil.run pins s σ H D I (by
  obtain ⟨α, env, hp, re, rh, fi⟩ := h
  exact fi α H σ .refl rh re)⟩
theorem dss_cons (h1 : DS X R W st f) (h2 : DSs X R W rest g) : DSs X R W (st :: rest) (sSeq f g) := by
  refine ⟨fun pins s σ H D I h => (pss_cons h1 h2).run pins s σ H D I ?_⟩
  obtain ⟨α, env, hp, re, rh, fi⟩ := h
  refine ⟨α, env, hp, re, rh, ?_⟩
  unfold sSeq at fi
  cases er : f env hp with
  | nx env1 h1 => rw [er] at fi; exact fun α1 H1 σ1 x1 rh1 re1 => ⟨α1, env1, h1, re1, rh1, FinS.mono (r := g env1 h1) fi x1⟩
  | rt d h1 => rw [er] at fi; exact fi
  | bk d h1 => rw [er] at fi; exact fi
  | ct d h1 => rw [er] at fi; exact fi
  | ex d en h1 => rw [er] at fi; exact fi
  | no => rw [er] at fi; exact fi
theorem dss_one (h1 : DS X R W st f) : DSs X R W [st] f := pss_one h1
theorem ds_expr (he : DE X R W e fe) (hs : swapsWith e none pos.line X.env = pure false := by rfl) : DS X R W (.Expr e pos) (sExpr fe) := by
  refine ⟨fun pins s σ H D I h => (ps_expr he hs).run pins s σ H D I ?_⟩
  obtain ⟨α, env, hp, re, rh, fi⟩ := h
  refine ⟨α, env, hp, re, rh, (finS_of re fi).imp fun v H1 hq => ?_⟩
  obtain ⟨d, α1, h1, _, x1, rh1, r1, f1⟩ := hq
  exact f1 α1 H1 σ .refl rh1 (re.ext x1)
theorem ds_ret (he : DE X R W e fe) : DS X R W (.Return (some e) pos) (sRet fe) := by
  refine ⟨fun pins s σ H D I h => (ps_ret he).run pins s σ H D I ?_⟩
  obtain ⟨α, env, hp, re, rh, fi⟩ := h
  refine ⟨α, env, hp, re, rh, (finS_of re fi).imp fun v H1 hq => ?_⟩
  obtain ⟨d, α1, h1, _, x1, rh1, r1, f1⟩ := hq
  exact f1 α1 H1 v .refl rh1 r1
theorem ds_retN : DS X R W (.Return none pos) sRetN := by
  refine ⟨fun pins s σ H D I h => ps_retN.run pins s σ H D I ?_⟩
  obtain ⟨α, env, hp, re, rh, fi⟩ := h
  exact fi α H .non .refl rh .non
theorem ds_pass : DS X R W (.Pass pos) sNil := by
  refine ⟨fun pins s σ H D I h => ps_pass.run pins s σ H D I ?_⟩
  obtain ⟨α, env, hp, re, rh, fi⟩ := h
  exact fi α H σ .refl rh re
theorem ds_break : DS X R W (.Break pos) sBrk := by
  refine ⟨fun pins s σ H D I h => ps_break.run pins s σ H D I ?_⟩
  obtain ⟨α, env, hp, re, rh, fi⟩ := h
  exact fi α H σ .refl rh re
theorem ds_cont : DS X R W (.Continue pos) sCont := by
  refine ⟨fun pins s σ H D I h => ps_continue.run pins s σ H D I ?_⟩
  obtain ⟨α, env, hp, re, rh, fi⟩ := h
  exact fi α H σ .refl rh re
theorem ds_if {c : Expr} {a b : List Stmt} {fc : Ft} (hc : DT X R W c fc) (ha : DSs X R W a f) (hb : DSs X R W b g) : DS X R W (.If c a b pos) (sIf fc f g) := by
  refine ⟨fun pins s σ H D I h => (ps_if hc ha hb).run pins s σ H D I ?_⟩
  obtain ⟨α, env, hp, re, rh, fi⟩ := h
  refine ⟨α, env, hp, re, rh, (finS_tst re fi).imp fun v H1 hq => ?_⟩
  obtain ⟨α1, h1, _, x1, rh1, f1⟩ := hq
  cases v with
  | true => exact ⟨α1, env, h1, re.ext x1, rh1, f1⟩
  | false => exact ⟨α1, env, h1, re.ext x1, rh1, f1⟩
theorem ds_asg {tg : Expr} {ts : List Nat} {fg : Fg} (he : DE X R W e fe) (hg : DG X R tg ts fg) (hs : swapsWithSole [tg] e pos.line X.env = pure false := by rfl) (hw : swappedStores [tg] e X.env = pure none := by rfl)
    (h1 : (assignEach [tg] X.env).map (·.2) = [assign tg X.env] := by rfl) : DS X R W (.Assign [tg] e pos) (sAsg fe fg) := by
  refine ⟨fun pins s σ H D I h => (ps_asg he hg hs hw h1).run pins s σ H D I ?_⟩
  obtain ⟨α, env, hp, re, rh, fi⟩ := h
  refine ⟨α, env, hp, re, rh, (finS_of re fi).imp fun v H1 hq => ?_⟩
  obtain ⟨d, α1, h1, _, x1, rh1, r1, f1⟩ := hq
  refine ⟨α1, env, h1, d, re.ext x1, rh1, r1, ?_⟩
  cases eg : fg d env h1 with
  | none =>
    have f1 : FinS R W α1 H1 D (match fg d env h1 with
      | some (env1, h1) => .nx env1 h1
      | none => .no) := f1
    rw [eg] at f1
    exact f1
  | some p =>
    obtain ⟨env2, hp2⟩ := p
    have f1 : FinS R W α1 H1 D (match fg d env h1 with
      | some (env1, h1) => .nx env1 h1
      | none => .no) := f1
    rw [eg] at f1
    exact fun α2 H2 s2 x2 rh2 re2 _ => f1 α2 H2 s2 x2 rh2 re2
theorem ds_set (i : Nat) {x : Str} {pos' : Pos} (hN : X.N.Nodup) (he : DE X R W e fe) (hi : X.N[i]? = some x := by rfl) (hx : Loc X.env.scope x := by first | exact Or.inl rfl | exact Or.inr rfl) (hs : swapsWith e (some (.Name x pos')) pos.line X.env = pure false := by rfl)
    (hf : X.fn x = true ∨ X.env.scope.names.lookup x = some .local := by first | exact .inl rfl | exact .inr rfl | assumption) : DS X R W (.Assign [.Name x pos'] e pos) (sAsg fe (gSet i)) := by
  refine ⟨fun pins s σ H D I h => (ps_set (i := i) hN hi hx he hs hf).run pins s σ H D I ?_⟩
  obtain ⟨α, env, hp, re, rh, fi⟩ := h
  refine ⟨α, env, hp, re, rh, (finS_of re fi).imp fun v H1 hq => ?_⟩
  obtain ⟨d, α1, h1, _, x1, rh1, r1, f1⟩ := hq
  have f1 : FinS R W α1 H1 D (match gSet i d env h1 with
    | some (env1, h1) => .nx env1 h1
    | none => .no) := f1
  unfold gSet at f1
  split at f1
  · rename_i he
    split at he
    · cases he
      exact f1 α1 H1 _ .refl rh1 ((re.ext x1).set r1)
    · cases he
  · exact (show False from f1).elim
end
/-! ### argument lists and displays -/
@[simp] def aNil : Fa := fun _ h => .ok [] h
@[simp] def aCons (f : Fe) (g : Fa) : Fa := fun env h => (f env h).bind fun x h1 => (g env h1).bind fun xs h2 => .ok (x :: xs) h2
@[simp] def eTup (f : Fa) : Fe := fun env h => (f env h).bind fun xs h1 => if xs.length ≤ 16777216 then .ok (.tup xs) h1 else .no
@[simp] def eLst (f : Fa) : Fe := fun env h => (f env h).bind fun xs h1 => if xs.length ≤ 16777216 then .ok (.ref h1.length) (h1 ++ [.lst xs]) else .no
section
variable {X : Cx} {R : Rx} {W : WX} {pos : Pos} {e : Expr} {es : List Expr} {fe : Fe} {fa : Fa}
theorem da_nil : DA X R W [] aNil := by
  refine ⟨fun pos pins s σ H Q I h => pa_nil.run pos pins s σ H Q I ?_⟩
  obtain ⟨α, env, hp, re, rh, fi⟩ := h
  exact fi α H [] .refl rh .nil
theorem da_cons (ha : DE X R W e fe) (hr : DA X R W es fa) (hs : starEach (e :: es) X.env = (false, eval e X.env) :: starEach es X.env := by rfl) : DA X R W (e :: es) (aCons fe fa) := by
  refine ⟨fun pos pins s σ H Q I h => (pa_cons ha hr hs).run pos pins s σ H Q I ?_⟩
  obtain ⟨α, env, hp, re, rh, fi⟩ := h
  refine ⟨α, env, hp, re, rh, (Fin.split fi).imp fun v H1 hq => ?_⟩
  obtain ⟨d, α1, h1, _, x1, rh1, r1, f1⟩ := hq
  refine ⟨α1, env, h1, re.ext x1, rh1, (Fin.split f1).imp fun vs H2 hq => ?_⟩
  obtain ⟨ds, α2, h2, _, x2, rh2, r2, f2⟩ := hq
  exact f2 α2 H2 _ .refl rh2 (.cons (RelD.ext x2 _ _ r1) r2)
theorem new_tup {α : List Addr} {H : Hp} {h : Hd} {xs : List D} {vs : List V} {p : Addr} (rh : RH R α h H) (r : RelDs R α H xs vs) (hp : H p = none) :
    Ext α H α (upd H p (.tup vs)) ∧ RH R α h (upd H p (.tup vs)) ∧ RelD R α (upd H p (.tup vs)) (.tup xs) (.ref p) :=
  ⟨Ext.side hp, rh.side hp, .tup (SqT.of upd_same) (RelDs.ext (Ext.side hp) _ _ r)⟩
theorem new_lst {α : List Addr} {H : Hp} {h : Hd} {xs : List D} {vs : List V} {p : Addr} (rh : RH R α h H) (r : RelDs R α H xs vs) (hp : H p = none) :
    Ext α H (α ++ [p]) (upd H p (.lst vs)) ∧ RH R (α ++ [p]) (h ++ [.lst xs]) (upd H p (.lst vs)) ∧ RelD R (α ++ [p]) (upd H p (.lst vs)) (.ref h.length) (.ref p) :=
  ⟨Ext.new hp, rh.new hp ⟨vs, upd_same, RelDs.ext (Ext.new hp) _ _ r⟩, .ref rh.new_at⟩
theorem lineEq : (sizeLine : Nat) = 16777216 := sizeLine_eq
theorem de_tup {k} (h : DA X R W es fa) : DE X R W (.Tuple es k pos) (eTup fa) := by
  refine ⟨fun pins s σ H Q I q => (pe_tup h).run pins s σ H Q I ?_⟩
  obtain ⟨α, env, hp, re, rh, fi⟩ := q
  refine ⟨α, env, hp, re, rh, (Fin.split fi).imp fun v H1 hq => ?_⟩
  obtain ⟨d, α1, h1, _, x1, rh1, r1, f1⟩ := hq
  split at f1
  · rename_i hl
    refine ⟨by rw [← r1.length, lineEq]; exact hl, fun p hp => ?_⟩
    obtain ⟨a, b, c⟩ := new_tup rh1 r1 hp
    exact f1 α1 _ _ a b c
  · exact (show False from f1).elim
theorem de_lst (h : DA X R W es fa) : DE X R W (.List es pos) (eLst fa) := by
  refine ⟨fun pins s σ H Q I q => (pe_lst h).run pins s σ H Q I ?_⟩
  obtain ⟨α, env, hp, re, rh, fi⟩ := q
  refine ⟨α, env, hp, re, rh, (Fin.split fi).imp fun v H1 hq => ?_⟩
  obtain ⟨d, α1, h1, _, x1, rh1, r1, f1⟩ := hq
  split at f1
  · rename_i hl
    refine ⟨by rw [← r1.length, lineEq]; exact hl, fun p hp => ?_⟩
    obtain ⟨a, b, c⟩ := new_lst rh1 r1 hp
    exact f1 _ _ _ a b c
  · exact (show False from f1).elim
end
end Mi

set_option Elab.async false
set_option linter.all false
set_option maxRecDepth 100000
set_option maxHeartbeats 1000000
namespace Mi
open PySem PySem.Spec PyProof.Rows L2

/-! ### what is walked -/
inductive Nx where
  | item (d : D) | stop | bad
abbrev Src := Hd → Nat → Nx
abbrev Fi := En → Hd → Res Src
def RelI (R : Rx) (α : List Addr) (H : Hp) (s : Src) (J : It) : Prop := ∀ α' H' h' i, Ext α H α' H' → RH R α' h' H' → match s h' i with
  | .item d => J.go i H' ∧ ∀ x H'', J.yld i H' x H'' → Ext α' H' α' H'' ∧ RH R α' h' H'' ∧ RelD R α' H'' d x
  | .stop => J.stop i H'
  | .bad => True
def tI (R : Rx) (W : WX) (f : Fi) : TI := fun σ H Q => ∃ α env h, RelEnv R α H env σ ∧ RH R α h H ∧ Fin (RelI R) R W α H σ (f env h) Q
abbrev DI (X : Cx) (R : Rx) (W : WX) (tg iter : Expr) (f : Fi) : Prop := PI X tg iter (tI R W f)
theorem RelI.mono {R : Rx} {α α1 : List Addr} {H H1 : Hp} {s : Src} {J : It} (r : RelI R α H s J) (e : Ext α H α1 H1) : RelI R α1 H1 s J := fun α' H' h' i x => r α' H' h' i (e.trans x)
/-- a value walked: a tuple, a list -/
def fixS (xs : List D) : Src := fun _ i => match xs[i]? with
  | some d => .item d
  | none => .stop
def liveS (n : Nat) : Src := fun h i => match h[n]? with
  | some (.lst xs) => fixS xs h i
  | some (.fro xs) => fixS xs h i
  | _ => .bad
def rngS (lo : Int) (n : Nat) (c : Int) : Src := fun _ i => if i < n then .item (.int (lo + (i : Nat) * c)) else .stop
/-- each item with its number -/
def enmS (s : Src) : Src := fun h i => match s h i with
  | .item d => .item (.tup [.int (i : Nat), d])
  | .stop => .stop
  | .bad => .bad
@[simp] def walk1 : D → Hd → Res Src := fun d h => match d with
  | .tup xs => .ok (fixS xs) h
  | .ref n => (match h[n]? with
    | some (.lst _) => .ok (liveS n) h
    | some (.fro _) => .ok (liveS n) h
    | _ => .no)
  | _ => .no
@[simp] def iOf (f : Fe) : Fi := fun env h => (f env h).bind walk1
@[simp] def iEnm (f : Fe) : Fi := fun env h => (f env h).bind fun d h1 => (walk1 d h1).bind fun s h2 => .ok (enmS s) h2
section
variable {X : Cx} {R : Rx} {W : WX} {pos : Pos} {tg e : Expr} {fe : Fe}
theorem rel_fix {α : List Addr} {H : Hp} {a : Addr} {xs : List D} {vs : List V} (hq : SqT R.K H a vs) (r : RelDs R α H xs vs) : RelI R α H (fixS xs) (Itt R.K a) := by
  intro α' H' h' i x rh
  unfold fixS
  have hq' := x.sqT hq
  cases e : xs[i]? with
  | some d =>
    obtain ⟨v, ev, rv⟩ := (RelDs.ext x _ _ r).get e
    exact ⟨⟨vs, v, hq', ev⟩, fun y H'' hy => by
      obtain ⟨rfl, hy⟩ := hy
      have := hy vs hq'
      rw [ev] at this
      cases this
      exact ⟨.refl, rh, rv⟩⟩
  | none =>
    refine ⟨vs, hq', ?_⟩
    rw [← r.length]
    exact List.getElem?_eq_none_iff.mp e
theorem lst_of {α : List Addr} {H : Hp} {h : Hd} {n : Nat} {a : Addr} {xs : List D} (rh : RH R α h H) (ha : α[n]? = some a) (e : h[n]? = some (.lst xs) ∨ h[n]? = some (.fro xs)) : ∃ vs, SqL R.K H a vs ∧ RelDs R α H xs vs := by
  obtain ⟨o, eo, ro⟩ := rh.at ha
  rcases e with e | e
  · rw [e] at eo
    cases eo
    obtain ⟨vs, q, r⟩ := ro
    exact ⟨vs, SqL.of q, r⟩
  · rw [e] at eo
    cases eo
    obtain ⟨vs, ob, q, r⟩ := ro
    exact ⟨vs, .inl (.inr ⟨ob, q⟩), r⟩
theorem rel_live {α : List Addr} {H : Hp} {n : Nat} {a : Addr} (ha : α[n]? = some a) : RelI R α H (liveS n) (Itl R.K a) := by
  intro α' H' h' i x rh
  have go : ∀ xs, (h'[n]? = some (.lst xs) ∨ h'[n]? = some (.fro xs)) → match fixS xs h' i with
      | .item d => (Itl R.K a).go i H' ∧ ∀ x H'', (Itl R.K a).yld i H' x H'' → Ext α' H' α' H'' ∧ RH R α' h' H'' ∧ RelD R α' H'' d x
      | .stop => (Itl R.K a).stop i H'
      | .bad => True := fun xs hx => by
    obtain ⟨vs, hq, r⟩ := lst_of rh (x.get ha) hx
    unfold fixS
    cases e : xs[i]? with
    | some d =>
      obtain ⟨v, ev, rv⟩ := r.get e
      exact ⟨⟨vs, v, hq, ev⟩, fun y H'' hy => by
        obtain ⟨rfl, hy⟩ := hy
        have := hy vs hq
        rw [ev] at this
        cases this
        exact ⟨.refl, rh, rv⟩⟩
    | none =>
      refine ⟨vs, hq, ?_⟩
      rw [← r.length]
      exact List.getElem?_eq_none_iff.mp e
  unfold liveS
  cases e : h'[n]? with
  | none => trivial
  | some o =>
    cases o with
    | lst xs => exact go xs (.inl e)
    | fro xs => exact go xs (.inr e)
    | dic kvs => trivial
theorem rel_rng {α : List Addr} {H : Hp} {lo : Int} {n : Nat} : RelI R α H (rngS lo n 1) (Itr lo n) := by
  intro α' H' h' i x rh
  unfold rngS
  by_cases hi : i < n
  · rw [if_pos hi]
    exact ⟨hi, fun y H'' hy => by
      obtain ⟨rfl, rfl⟩ := hy
      rw [Int.mul_one]
      exact ⟨.refl, rh, .int⟩⟩
  · rw [if_neg hi]
    exact Nat.le_of_not_lt hi
theorem rel_rngC {α : List Addr} {H : Hp} {lo c : Int} {n : Nat} : RelI R α H (rngS lo n c) (Itc lo c n) := by
  intro α' H' h' i x rh
  unfold rngS
  by_cases hi : i < n
  · rw [if_pos hi]
    exact ⟨hi, fun y H'' hy => by
      obtain ⟨rfl, rfl⟩ := hy
      exact ⟨.refl, rh, .int⟩⟩
  · rw [if_neg hi]
    exact Nat.le_of_not_lt hi
/-- a list or a tuple -/
theorem di_of (hK : R.K = X.K) (he : DE X R W e fe) : DI X R W tg e (iOf fe) := by
  refine ⟨fun pins s σ H Q I h => ?_⟩
  obtain ⟨α, env, hp, re, rh, fi⟩ := h
  refine thn (he.run pins s σ H _ I ⟨α, env, hp, re, rh, Fin.split (g := walk1) fi⟩) fun u s1 ⟨v, H1, I1, r1, q1⟩ => ?_
  obtain ⟨d, α1, h1, _, x1, rh1, rd1, f1⟩ := q1
  cases d with
  | tup xs =>
    obtain ⟨a, vs, ev, hq, rs⟩ := rd1.tup_inv
    subst ev
    cases r1
    obtain ⟨its, rv, p, hz⟩ := I1.tuple (hK ▸ hq)
    refine wpAny_pyIter_tuple (show s1.heap.IsTuple a its.toArray from p) ?_
    refine ⟨s1.heap.objs.size, [s1.heap.objs.size], _, _, H1, rfl, I1.kept (t' := s1.toks) fun b o e => Heap.get?_push_of_some _ e, turn_tuple a _, ⟨_, Heap.get?_push_size _ rfl, rfl, rfl⟩, fun b hb => ?_, f1 α1 H1 _ .refl rh1 (hK ▸ rel_fix hq rs)⟩
    have e : b = s1.heap.objs.size := by simpa using hb
    subst e
    exact I1.fpOk (Nat.le_refl _) (I1.hok.fresh (Nat.le_refl _))
  | ref n =>
    obtain ⟨a, ea, ev⟩ := rd1.ref_inv
    subst ev
    cases r1
    have lives : ∀ xs, (h1[n]? = some (.lst xs) ∨ h1[n]? = some (.fro xs)) → walk1 (.ref n) h1 = .ok (liveS n) h1 → wpAny (model X.prog X.w) X.A (pyIter (.ref a)) (PIE X pins σ tg Q) X.xe s1 := fun xs hx ew => by
      rw [ew] at f1
      obtain ⟨vs, hq, rs⟩ := lst_of rh1 ea hx
      obtain ⟨its, rv, p, hz⟩ := I1.list (hK ▸ hq)
      refine wpAny_pyIter_list p.isList ?_
      refine ⟨s1.heap.objs.size, [s1.heap.objs.size], _, _, H1, rfl, I1.kept (t' := s1.toks) fun b o e => Heap.get?_push_of_some _ e, turn_list a _, ⟨_, Heap.get?_push_size _ rfl, rfl, rfl⟩, fun b hb => ?_, f1 α1 H1 _ .refl rh1 (hK ▸ rel_live ea)⟩
      have e : b = s1.heap.objs.size := by simpa using hb
      subst e
      exact I1.fpOk (Nat.le_refl _) (I1.hok.fresh (Nat.le_refl _))
    unfold walk1 at f1 lives
    dsimp only at f1 lives
    cases e : h1[n]? with
    | none => rw [e] at f1; exact f1.elim
    | some o =>
      cases o with
      | lst xs => exact lives xs (.inl e) (by rw [e])
      | fro xs => exact lives xs (.inr e) (by rw [e])
      | dic kvs => rw [e] at f1; exact f1.elim
  | _ => exact (show False from f1).elim
end

/-! ### enumerate -/
/-- the tuple at a, each item in a new pair -/
def IteT (K : PySem.W.Frag) (a : Addr) : It :=
  ⟨fun i H => ∃ (xs : List V) (x : V), SqT K H a xs ∧ xs[i]? = some x, fun i H v H' => ∃ T x, v = .ref T ∧ H T = none ∧ H' = upd H T (.tup [.int (i : Nat), x]) ∧ ∀ xs, SqT K H a xs → xs[i]? = some x, fun i H => ∃ xs : List V, SqT K H a xs ∧ xs.length ≤ i⟩
theorem turn_enumT {P : Program} {w : World} {K : PySem.W.Frag} {elts : List Expr} {kk : Nat} {tpos : Pos} (a e it : Addr) :
    Turn P w K (.Tuple elts kk tpos) (IteT K a) [e, it] e (fun i h => (∃ old, IsEnum h e it ((i : Nat) : Int) old) ∧ h.IsTupleIter it a i ∧ e ≠ it) where
  mem := by simp
  obj := fun i h st b hb => by
    obtain ⟨⟨old, he⟩, ⟨o, ho, hc, hd⟩, _⟩ := st
    have e' : b = e ∨ b = it := by simpa using hb
    rcases e' with z | z
    · rw [z]; exact ⟨_, he, fun v q => nomatch q⟩
    · rw [z]; exact ⟨o, ho, fun v q => by rw [hd] at q; cases q⟩
  keep := fun i h h' st k => let ⟨⟨old, he⟩, hi, hne⟩ := st; ⟨⟨old, k e (by simp) _ he⟩, hi.at fun o q => k it (by simp) o q, hne⟩
  item := by
    intro X hP hw hK hc i pins s σ H E I hf st hg
    subst hP hw hK
    obtain ⟨⟨old, he⟩, hit, hne⟩ := st
    obtain ⟨xs, x, hq, hx⟩ := hg
    obtain ⟨its, rv, p, hz⟩ := I.tuple hq
    obtain ⟨u, hu, ru⟩ := rv.get hx
    have hel : e < s.heap.objs.size := Heap.lt_size he
    have hil : it < s.heap.objs.size := by obtain ⟨_, q, _⟩ := hit; exact Heap.lt_size q
    obtain ⟨oi, hoi, hci, hdi⟩ := id hit
    obtain ⟨oa, hoa, hca, na, hda⟩ := id (show s.heap.IsTuple a its.toArray from p)
    have hae : e ≠ a := fun z => by
      rw [← z, he] at hoa
      cases hoa
      exact absurd hca (by simp)
    have hai : a ≠ it := fun z => by
      rw [z, hoi] at hoa
      cases hoa
      rw [hci] at hca
      exact absurd hca (by simp)
    have DR := Draws.tuple (prog := X.prog) (w := X.w) (A := X.A.in1) (I.ok.hd hc) it a hai its.toArray
    have hlt : i < its.toArray.size := by
      have := (List.getElem?_eq_some_iff.mp hu).1
      simpa using this
    refine wpAny_pyNext_enum_itemC DR he ⟨hit, p⟩ hlt hne (by simp [hne, hae]) fun y h' tk hP ho hst' hT hsz hk => ?_
    have ey : y = u := by
      have hP : its.toArray[i]? = some y := hP
      rw [List.getElem?_toArray, hu] at hP
      exact (Option.some.inj hP).symm
    subst ey
    have hit' := hst'.1
    refine ⟨_, rfl, wpAny_letOwnedTupleGo_enum (s := { s with heap := h', toks := tk + 1 }) ho fun h'' he' sb => ?_⟩
    have hT2 : h''.get? s.heap.objs.size = some { cls := .type "tuple", data := .seq #[.int i tk, y] } := (sb.2 _ (Nat.ne_of_gt hel)).trans hT
    have new : ObjOk X.prog X.w (upd H s.heap.objs.size (.tup [.int (i : Nat), x])) h'' s.heap.objs.size (.tup [.int (i : Nat), x]) :=
      ⟨by show 2 ≤ sizeLine; decide, [.int i tk, y], .cons ⟨_, rfl⟩ (.cons ru .nil), ⟨_, hT2, rfl, _, rfl⟩⟩
    have I1 : Inv X pins σ (upd H s.heap.objs.size (.tup [.int (i : Nat), x])) { s with heap := h'', toks := tk + 1 } :=
      I.turnedNew (ch := [e, it]) (fun b ob hb q => (sb.2 b (fun z => hb (by simp [z]))).trans (hk b ob (fun z => hb (by simp [z])) (fun z => hb (by simp [z])) q)) hf (Nat.le_refl _) new
    refine ⟨.ref s.heap.objs.size, _, I1, rfl, ⟨_, x, rfl, I.hok.fresh (Nat.le_refl _), rfl, fun ys hy => by rw [I.tuple_inj hy hq]; exact hx⟩, ⟨⟨y, ?_⟩, hit'.at fun o q => (sb.2 it (Ne.symm hne)).trans q, hne⟩, fun b hb => ?_⟩
    · have e1 : ((i + 1 : Nat) : Int) = (i : Int) + 1 := by omega
      rw [e1]; exact he'
    · have hb' : b < s.heap.objs.size := by
        have e' : b = e ∨ b = it := by simpa using hb
        rcases e' with z | z
        · rw [z]; exact hel
        · rw [z]; exact hil
      rw [upd_ne (Nat.ne_of_lt hb')]
      exact (hf b hb).1
  done := by
    intro X hP hw hK hc i pins s σ H E I hf st hg
    subst hP hw hK
    obtain ⟨⟨old, he⟩, hit, hne⟩ := st
    obtain ⟨xs, hq, hx⟩ := hg
    obtain ⟨its, rv, p, hz⟩ := I.tuple hq
    obtain ⟨f0, f1, f2, f3, f4, f5⟩ := hf it (by simp)
    have hl := rv.length
    obtain ⟨oi, hoi, hci, hdi⟩ := id hit
    obtain ⟨oa, hoa, hca, na, hda⟩ := id (show s.heap.IsTuple a its.toArray from p)
    have hai : a ≠ it := fun z => by
      rw [z, hoi] at hoa
      cases hoa
      rw [hci] at hca
      exact absurd hca (by simp)
    have hT : s.TypeIs (.ref e) "enumerate" := ⟨_, he, rfl⟩
    unfold pyNext
    refine wpAny_bind (wpAny_attempt (wpAny_callSpecial?_slot (name := Str.ofString "__next__") hT F.slot_enumerate_next
      (wpAny_call_entry F.slot_enumerate_next hT F.entry_enumerate_next ?_ (F.args_enumerate_next_1 _))))
    show wpAny _ _ (field (.ref e) 2 >>= _) _ _ _
    refine wpAny_bind (wpAny_field he rfl (x := .ref it) rfl ?_)
    refine wpAny_bind (wpAny_nextOf_tuple_end (I.ok.hd hc) hit (show s.heap.IsTuple a its.toArray from p) (by simp; omega) fun h' x he' hx' => ?_)
    obtain ⟨o, ho, hc⟩ := hx'
    refine wpAny_bind (wpAny_isInstance (T := "StopIteration") (b := true) ⟨o, ho, hc⟩ isSubtype_stop ?_)
    exact wpAny_pure ⟨rfl, I.turned (t' := s.toks) (fun b o hb q => he' b o hb q) f0 f1 f3 f4 f5⟩
  self := fun A i s Q E st h => let ⟨⟨_, he⟩, _⟩ := st; wpAny_pyIter_enum he h
set_option maxHeartbeats 1000000 in
theorem meets_enumerate_newB1 {v : Value} {o : Obj} {H : Heap → Prop} (B : Begins v o H) :
    Meets (Builtin.«enumerate.__new__» ⟨[.type "enumerate", v], []⟩) (fun _ R s => H s.heap ∧
      R (.ok (.ret (.ref (s.heap.push o).objs.size))) { s with heap := (s.heap.push o).push { cls := .type "enumerate", data := .fields #[.none, .bool false, .ref s.heap.objs.size, rawInt 0, .none, .none] } }) :=
  .of_wp fun prog w A R s h => by
    obtain ⟨hp, g, d, tk, os⟩ := s; obtain ⟨h1, h⟩ := h
    have hsub := sub_enumerate
    have q1 : ∀ {A' : Around} {E : Value → Shared → Prop} {Q : Value → Shared → Prop}, Q (.ref hp.objs.size) ⟨hp.push o, g, d, tk, os⟩ → wpAny (model prog w) A' (pyIter v) Q E ⟨hp, g, d, tk, os⟩ :=
      fun q => B.iter prog w _ _ ⟨hp, g, d, tk, os⟩ _ h1 q
    wp_walk using q1
    refine wpAny_stack_any fun st => wpAny_pure ?_
    split
    · rename_i c _ _ _ _ _
      cases (c == Value.type "enumerate")
      · wp_walk using q1
        exact ⟨_, rfl, h⟩
      · wp_walk using q1
        exact ⟨_, rfl, h⟩
    · wp_walk using q1
      exact ⟨_, rfl, h⟩
theorem call_enum_begins {prog : Program} {w : World} {A : Around} {E : Value → Shared → Prop} {s : Shared} {v : Value} {o : Obj} {H : Heap → Prop} {Q : Value → Shared → Prop} (B : Begins v o H) (h1 : H s.heap)
    (h : ∀ h', IsEnum h' (s.heap.objs.size + 1) s.heap.objs.size 0 .none → h'.get? s.heap.objs.size = some o → h'.objs.size = s.heap.objs.size + 2 →
      (∀ b o, s.heap.get? b = some o → h'.get? b = some o) → Q (.ref (s.heap.objs.size + 1)) { s with heap := h' }) :
    wpAny (model prog w) A (call (.type "enumerate") [v]) Q E s := by
  refine callType_new F.called_enumerate (by decide) (F.typeCall_enumerate_1 _) (F.newCall_enumerate_1 _) (fun obj => F.args_object_init_2 obj _) F.entry_enumerate_new
    (meets_enumerate_newB1 B) ⟨h1, ?_⟩
  have hz : (s.heap.push o).objs.size = s.heap.objs.size + 1 := Heap.size_push ..
  show _ ∧ _
  rw [hz]
  have he : IsEnum ((s.heap.push o).push { cls := .type "enumerate", data := .fields #[.none, .bool false, .ref s.heap.objs.size, rawInt 0, .none, .none] }) (s.heap.objs.size + 1) s.heap.objs.size 0 .none := by
    have := Heap.get?_push_size (s.heap.push o) (o := { cls := .type "enumerate", data := .fields #[.none, .bool false, .ref s.heap.objs.size, rawInt 0, .none, .none] }) rfl
    rw [hz] at this; exact this
  refine ⟨⟨_, he, rfl⟩, h _ he (Heap.get?_push_of_some _ (Heap.get?_push_size _ B.free)) (by rw [Heap.size_push, hz]) fun b o x => Heap.get?_push_of_some _ (Heap.get?_push_of_some _ x)⟩
end Mi

set_option Elab.async false
set_option linter.all false
set_option maxRecDepth 100000
set_option maxHeartbeats 1000000
namespace Mi
open PySem PySem.Spec PyProof.Rows L2
section
variable {R : Rx}
theorem rel_enm {α : List Addr} {H : Hp} {n : Nat} {a : Addr} (ha : α[n]? = some a) : RelI R α H (enmS (liveS n)) (Ite R.K a) := by
  intro α' H' h' i x rh
  have go : ∀ xs, (h'[n]? = some (.lst xs) ∨ h'[n]? = some (.fro xs)) → match (match fixS xs h' i with
      | .item d => Nx.item (.tup [.int (i : Nat), d])
      | .stop => .stop
      | .bad => .bad) with
      | .item d => (Ite R.K a).go i H' ∧ ∀ x H'', (Ite R.K a).yld i H' x H'' → Ext α' H' α' H'' ∧ RH R α' h' H'' ∧ RelD R α' H'' d x
      | .stop => (Ite R.K a).stop i H'
      | .bad => True := fun xs hx => by
    obtain ⟨vs, hq, r⟩ := lst_of rh (x.get ha) hx
    unfold fixS
    cases e : xs[i]? with
    | some d =>
      obtain ⟨v, ev, rv⟩ := r.get e
      exact ⟨⟨vs, v, hq, ev⟩, fun y H'' hy => by
        obtain ⟨T, z, rfl, hT, rfl, hy⟩ := hy
        have := hy vs hq
        rw [ev] at this
        cases this
        exact new_tup rh (.cons .int (.cons rv .nil)) hT⟩
    | none =>
      refine ⟨vs, hq, ?_⟩
      rw [← r.length]
      exact List.getElem?_eq_none_iff.mp e
  unfold enmS liveS
  cases e : h'[n]? with
  | none => trivial
  | some o =>
    cases o with
    | lst xs => exact go xs (.inl e)
    | fro xs => exact go xs (.inr e)
    | dic kvs => trivial
theorem rel_enmT {α : List Addr} {H : Hp} {a : Addr} {xs : List D} {vs : List V} (hq : SqT R.K H a vs) (r : RelDs R α H xs vs) : RelI R α H (enmS (fixS xs)) (IteT R.K a) := by
  intro α' H' h' i x rh
  unfold enmS fixS
  have hq' := x.sqT hq
  cases e : xs[i]? with
  | some d =>
    obtain ⟨v, ev, rv⟩ := (RelDs.ext x _ _ r).get e
    exact ⟨⟨vs, v, hq', ev⟩, fun y H'' hy => by
      obtain ⟨T, z, rfl, hT, rfl, hy⟩ := hy
      have := hy vs hq'
      rw [ev] at this
      cases this
      exact new_tup rh (.cons .int (.cons rv .nil)) hT⟩
  | none =>
    refine ⟨vs, hq', ?_⟩
    rw [← r.length]
    exact List.getElem?_eq_none_iff.mp e
end
section
variable {X : Cx} {R : Rx} {W : WX} {pos : Pos} {e : Expr} {fe : Fe}
theorem di_enum {elts : List Expr} {kk : Nat} {tpos p : Pos} (hK : R.K = X.K) (hg : Gl X "enumerate") (hm : X.mg "enumerate" = none) (he : DE X R W e fe) (hs : starEach [e] X.env = [(false, eval e X.env)] := by rfl) :
    DI X R W (.Tuple elts kk tpos) (.Call (.Name "enumerate" p) [e] [] pos) (iEnm fe) := by
  refine ⟨fun pins s σ H Q I h => ?_⟩
  obtain ⟨α, env, hp, re, rh, fi⟩ := h
  have ha : PA X [e] (tCons (tE R W fe) tNil) := pa_cons he pa_nil hs
  refine Call_ (ld_blt I hg hm boot_enumerate (PyProof.Rows.callWith_type1 (thn (ha.run pos pins s σ H (fun vs H1 => ∃ v, vs = [v] ∧ ∃ d α1 h1, fe env hp = Res.ok d h1 ∧ Ext α H α1 H1 ∧ RH R α1 h1 H1 ∧ RelD R α1 H1 d v ∧ Fin (RelI R) R W α1 H1 σ ((walk1 d h1).bind fun s h2 => Res.ok (enmS s) h2) Q) I
    ⟨α, env, hp, re, rh, (Fin.split (Rl := RelD R) (r := fe env hp) fi).imp fun v H1 hq => ⟨v, rfl, hq⟩⟩) fun us s1 ⟨vs, H1, I1, r1, q1⟩ => ?_) hs rfl))
  obtain ⟨v, ev, d, α1, h1, _, x1, rh1, rd1, f1⟩ := q1
  subst ev
  cases r1 with
  | cons r rr =>
  cases rr
  cases d with
  | tup xs =>
    obtain ⟨a, vs, ev, hq, rs⟩ := rd1.tup_inv
    subst ev
    cases r
    obtain ⟨its, rv, p', hz⟩ := I1.tuple (hK ▸ hq)
    refine call_enum_begins (begins_tuple a its.toArray) p' fun h' he hit hsz hk => wpAny_pyIter_enum he ?_
    have I2 : Inv X pins σ H1 { s1 with heap := h' } := I1.kept (t' := s1.toks) hk
    refine ⟨s1.heap.objs.size + 1, [s1.heap.objs.size + 1, s1.heap.objs.size], _, _, H1, rfl, I2, turn_enumT a (s1.heap.objs.size + 1) s1.heap.objs.size, ⟨⟨.none, he⟩, ⟨_, hit, rfl, rfl⟩, Nat.succ_ne_self _⟩, fun b hb => ?_, f1 α1 H1 _ .refl rh1 (hK ▸ rel_enmT hq rs)⟩
    have e' : b = s1.heap.objs.size + 1 ∨ b = s1.heap.objs.size := by simpa using hb
    have hle : s1.heap.objs.size ≤ b := by
      rcases e' with z | z
      · rw [z]; exact Nat.le_add_right _ _
      · rw [z]; exact Nat.le_refl _
    exact I1.fpOk hle (I1.hok.fresh hle)
  | ref n =>
    obtain ⟨a, ea, ev⟩ := rd1.ref_inv
    subst ev
    cases r
    have lives : ∀ xs, (h1[n]? = some (.lst xs) ∨ h1[n]? = some (.fro xs)) → walk1 (.ref n) h1 = .ok (liveS n) h1 → wpAny (model X.prog X.w) X.A (call (.type "enumerate") [.ref a]) (fun v s₁ => wpAny (model X.prog X.w) X.A (pyIter v) (PIE X pins σ (.Tuple elts kk tpos) Q) X.xe s₁) X.xe s1 := fun xs hx ew => by
      rw [ew] at f1
      obtain ⟨vs, hq, rs⟩ := lst_of rh1 ea hx
      obtain ⟨its, rv, p', hz⟩ := I1.list (hK ▸ hq)
      refine call_enum_begins (begins_list a its.toArray) p'.isList fun h' he hit hsz hk => wpAny_pyIter_enum he ?_
      have I2 : Inv X pins σ H1 { s1 with heap := h' } := I1.kept (t' := s1.toks) hk
      refine ⟨s1.heap.objs.size + 1, [s1.heap.objs.size + 1, s1.heap.objs.size], _, _, H1, rfl, I2, turn_enum a (s1.heap.objs.size + 1) s1.heap.objs.size, ⟨⟨.none, he⟩, ⟨_, hit, rfl, rfl⟩, Nat.succ_ne_self _⟩, fun b hb => ?_, f1 α1 H1 _ .refl rh1 (hK ▸ rel_enm ea)⟩
      have e' : b = s1.heap.objs.size + 1 ∨ b = s1.heap.objs.size := by simpa using hb
      have hle : s1.heap.objs.size ≤ b := by
        rcases e' with z | z
        · rw [z]; exact Nat.le_add_right _ _
        · rw [z]; exact Nat.le_refl _
      exact I1.fpOk hle (I1.hok.fresh hle)
    unfold walk1 at f1 lives
    dsimp only at f1 lives
    cases e : h1[n]? with
    | none => rw [e] at f1; exact f1.elim
    | some o =>
      cases o with
      | lst xs => exact lives xs (.inl e) (by rw [e])
      | fro xs => exact lives xs (.inr e) (by rw [e])
      | dic kvs => rw [e] at f1; exact f1.elim
  | _ => exact (show False from f1).elim

/-! ### range -/
theorem lim_ex : ∃ n : Int, n = 4611686018427387904 := ⟨_, rfl⟩
/-- 2 ^ 62: hidden from the kernel's reduction -/
noncomputable def lim62 : Int := Classical.choose lim_ex
theorem lim62_eq : lim62 = 4611686018427387904 := Classical.choose_spec lim_ex
noncomputable def rngOk (i : Int) : Bool := decide (-lim62 ≤ i) && decide (i < lim62)
theorem rng_small {i : Int} (h1 : -1000000 ≤ i) (h2 : i ≤ 1000000) : rngOk i = true := by
  unfold rngOk
  rw [Bool.and_eq_true, decide_eq_true_eq, decide_eq_true_eq, lim62_eq]
  omega
noncomputable def iRng1D (fa : Fa) : Fi := fun env h => (fa env h).bind fun ds h1 => match ds with
  | [.int j] => if rngOk j = true then .ok (rngS 0 j.toNat 1) h1 else .no
  | _ => .no
noncomputable def iRng2D (fa : Fa) : Fi := fun env h => (fa env h).bind fun ds h1 => match ds with
  | [.int i, .int j] => if (rngOk i && rngOk j) = true then .ok (rngS i (j - i).toNat 1) h1 else .no
  | _ => .no
noncomputable def iRng3D (fa : Fa) : Fi := fun env h => (fa env h).bind fun ds h1 => match ds with
  | [.int i, .int j, .int c] => if (rngOk i && rngOk j && decide (c = -1)) = true then .ok (rngS i (i - j).toNat (-1)) h1 else .no
  | _ => .no
theorem rngOk_of {i : Int} (h : rngOk i = true) : -(2 ^ 62) ≤ i ∧ i < 2 ^ 62 := by
  unfold rngOk at h
  rw [lim62_eq] at h
  simp only [Bool.and_eq_true, decide_eq_true_eq] at h
  have e : (2 : Int) ^ 62 = 4611686018427387904 := by decide
  rw [e]
  exact h
theorem di_rng1 {tg a : Expr} {p : Pos} {fa : Fa} (hg : Gl X "range") (hm : X.mg "range" = none) (ha : DA X R W [a] fa) (hs : starEach [a] X.env = [(false, eval a X.env)] := by rfl) : DI X R W tg (.Call (.Name "range" p) [a] [] pos) (iRng1D fa) := by
  refine ⟨fun pins s σ H Q I h => (pi_range1 (pos := pos) (p := p) hg hm ha hs).run pins s σ H Q I ?_⟩
  obtain ⟨α, env, hp, re, rh, fi⟩ := h
  refine ⟨α, env, hp, re, rh, (Fin.split fi).imp fun vs H1 hq => ?_⟩
  obtain ⟨ds, α1, h1, _, x1, rh1, rd1, f1⟩ := hq
  split at f1
  · obtain ⟨v, ev, r⟩ := rd1.one
    split at f1
    · rename_i hk
      obtain ⟨k1, k2⟩ := rngOk_of hk
      exact ⟨_, by rw [ev, r.int_inv], k1, k2, f1 α1 H1 _ .refl rh1 rel_rng⟩
    · exact f1.elim
  · exact f1.elim
theorem di_rng2 {tg a b : Expr} {p : Pos} {fa : Fa} (hg : Gl X "range") (hm : X.mg "range" = none) (ha : DA X R W [a, b] fa) (hs : starEach [a, b] X.env = [(false, eval a X.env), (false, eval b X.env)] := by rfl) (hs2 : starEach [b] X.env = [(false, eval b X.env)] := by rfl) :
    DI X R W tg (.Call (.Name "range" p) [a, b] [] pos) (iRng2D fa) := by
  refine ⟨fun pins s σ H Q I h => (pi_range2 (pos := pos) (p := p) hg hm ha hs hs2).run pins s σ H Q I ?_⟩
  obtain ⟨α, env, hp, re, rh, fi⟩ := h
  refine ⟨α, env, hp, re, rh, (Fin.split fi).imp fun vs H1 hq => ?_⟩
  obtain ⟨ds, α1, h1, _, x1, rh1, rd1, f1⟩ := hq
  split at f1
  · obtain ⟨v, v', ev, r, r'⟩ := rd1.two
    split at f1
    · rename_i hk
      rw [Bool.and_eq_true] at hk
      obtain ⟨k1, k2⟩ := rngOk_of hk.1
      obtain ⟨k3, k4⟩ := rngOk_of hk.2
      exact ⟨_, _, by rw [ev, r.int_inv, r'.int_inv], ⟨k1, k2, k3, k4⟩, f1 α1 H1 _ .refl rh1 rel_rng⟩
    · exact f1.elim
  · exact f1.elim
theorem di_rng3 {tg a b c : Expr} {p : Pos} {fa : Fa} (hg : Gl X "range") (hm : X.mg "range" = none) (ha : DA X R W [a, b, c] fa)
    (hs : starEach [a, b, c] X.env = (false, eval a X.env) :: starEach [b, c] X.env := by rfl) (hpl : (backTo pos (starEach [b, c] X.env)).any (·.1) = false := by rfl) :
    DI X R W tg (.Call (.Name "range" p) [a, b, c] [] pos) (iRng3D fa) := by
  refine ⟨fun pins s σ H Q I h => (pi_range3 (pos := pos) (p := p) hg hm ha hs hpl).run pins s σ H Q I ?_⟩
  obtain ⟨α, env, hp, re, rh, fi⟩ := h
  refine ⟨α, env, hp, re, rh, (Fin.split fi).imp fun vs H1 hq => ?_⟩
  obtain ⟨ds, α1, h1, _, x1, rh1, rd1, f1⟩ := hq
  split at f1
  · obtain ⟨v, r', ev, r1, r2⟩ := rd1.cons_inv
    obtain ⟨v', v'', ev', r3, r4⟩ := r2.two
    split at f1
    · rename_i hk
      rw [Bool.and_eq_true, Bool.and_eq_true, decide_eq_true_eq] at hk
      obtain ⟨⟨hk1, hk2⟩, hk3⟩ := hk
      obtain ⟨k1, k2⟩ := rngOk_of hk1
      obtain ⟨k3, k4⟩ := rngOk_of hk2
      subst hk3
      exact ⟨_, _, _, _, by rw [ev, ev', r1.int_inv, r3.int_inv, r4.int_inv], RgC.neg k1 k2 k3 k4, f1 α1 H1 _ .refl rh1 rel_rngC⟩
    · exact f1.elim
  · exact f1.elim
end
/-! ### for -/
def forL (src : Src) (tg : Fg) (body : Fs) : Nat → Nat → Fs
  | 0, _, _, _ => .no
  | n + 1, i, env, h => match src h i with
    | .stop => .nx env h
    | .bad => .no
    | .item d => (match tg d env h with
      | none => .no
      | some (env1, h1) => (match body env1 h1 with
        | .nx env2 h2 => forL src tg body n (i + 1) env2 h2
        | .ct env2 h2 => forL src tg body n (i + 1) env2 h2
        | .bk env2 h2 => .nx env2 h2
        | r => r))
theorem most_ex : ∃ n : Nat, n = 1099511627776 := ⟨_, rfl⟩
/-- the fuel: hidden from the kernel's reduction -/
noncomputable def most : Nat := Classical.choose most_ex
theorem most_eq : most = 1099511627776 := Classical.choose_spec most_ex
noncomputable def sFor (it : Fi) (tg : Fg) (body : Fs) : Fs := fun env h => match it env h with
  | .ok src h1 => forL src tg body most 0 env h1
  | .ex e h1 => .ex e env h1
  | .no => .no
def whileL (c : Ft) (body : Fs) : Nat → Fs
  | 0, _, _ => .no
  | n + 1, env, h => match c env h with
    | .ok false h1 => .nx env h1
    | .ok true h1 => (match body env h1 with
      | .nx env2 h2 => whileL c body n env2 h2
      | .ct env2 h2 => whileL c body n env2 h2
      | .bk env2 h2 => .nx env2 h2
      | r => r)
    | .ex e h1 => .ex e env h1
    | .no => .no
noncomputable def sWhile (c : Ft) (body : Fs) : Fs := whileL c body most
section
variable {X : Cx} {R : Rx} {W : WX} {pos : Pos} {tg iter : Expr} {body : List Stmt} {fi : Fi} {ts : List Nat} {fg : Fg} {fb : Fs}
theorem ds_for (hp : PassesOwn (model X.prog X.w) X.A X.env X.xe) (hc : X.calm = true) (hi : DI X R W tg iter fi) (hg : DG X R tg ts fg) (hb : DSs X R W body fb)
    (hs : ∀ x, foldedSetIterable iter X.env x = pure x := by intro _; rfl) : DS X R W (.For tg iter body [] pos) (sFor fi fg fb) := by
  refine ⟨fun pins s σ H Dn I h => (ps_for hp hc hi hg hb hs).run pins s σ H Dn I ?_⟩
  obtain ⟨α, env, hp, re, rh, f⟩ := h
  refine ⟨α, env, hp, re, rh, ?_⟩
  unfold sFor at f
  cases er : fi env hp with
  | no => rw [er] at f; exact f
  | ex e h1 => rw [er] at f; exact fun α1 H1 cls dd x1 rh1 r1 => f α1 H1 σ cls dd x1 rh1 (re.ext x1) r1
  | ok src h1 =>
    rw [er] at f
    intro α1 H1 J x1 rh1 rj
    have f : FinS R W α H Dn (forL src fg fb most 0 env h1) := f
    refine ⟨fun i m σ' H' => ∃ α' env' h', Ext α1 H1 α' H' ∧ RelEnv R α' H' env' σ' ∧ RH R α' h' H' ∧ FinS R W α' H' Dn (forL src fg fb m i env' h'), ⟨most, α1, env, h1, .refl, re.ext x1, rh1, f.mono x1⟩, ?_⟩
    rintro i m σ' H' ⟨α', env', h', xx, re', rh', f'⟩
    cases m with
    | zero => exact (show False from f').elim
    | succ m =>
      have rj' := rj α' H' h' i xx rh'
      unfold forL at f'
      cases es : src h' i with
      | bad => rw [es] at f'; exact (show False from f').elim
      | stop =>
        rw [es] at f' rj'
        exact .inl ⟨rj', f' α' H' σ' .refl rh' re'⟩
      | item d =>
        rw [es] at f' rj'
        refine .inr ⟨rj'.1, fun σ2 H2 => ∃ α2 env2 h2, Ext α1 H1 α2 H2 ∧ RelEnv R α2 H2 env2 σ2 ∧ RH R α2 h2 H2 ∧ FinS R W α2 H2 Dn (forL src fg fb m (i + 1) env2 h2), fun σ2 H2 hn => ⟨m, Nat.lt_succ_self m, hn⟩, fun x H2 hy => ?_⟩
        obtain ⟨x2, rh2, rd2⟩ := rj'.2 x H2 hy
        refine ⟨α', env', h', d, re'.ext x2, rh2, rd2, ?_⟩
        dsimp only at f'
        cases eg : fg d env' h' with
        | none => rw [eg] at f'; exact f'
        | some p =>
          obtain ⟨env3, h3⟩ := p
          rw [eg] at f'
          dsimp only at f'
          intro α3 H3 σ3 x3 rh3 re3 _
          refine ⟨α3, env3, h3, re3, rh3, ?_⟩
          cases eb : fb env3 h3 with
          | nx env4 h4 =>
            rw [eb] at f'
            exact fun α4 H4 σ4 x4 rh4 re4 => ⟨α4, env4, h4, ((xx.trans x2).trans x3).trans x4, re4, rh4, f'.mono ((x2.trans x3).trans x4)⟩
          | ct env4 h4 =>
            rw [eb] at f'
            exact fun α4 H4 σ4 x4 rh4 re4 => ⟨α4, env4, h4, ((xx.trans x2).trans x3).trans x4, re4, rh4, f'.mono ((x2.trans x3).trans x4)⟩
          | bk env4 h4 =>
            rw [eb] at f'
            exact fun α4 H4 σ4 x4 rh4 re4 => f' α4 H4 σ4 ((x2.trans x3).trans x4) rh4 re4
          | rt d4 h4 =>
            rw [eb] at f'
            exact fun α4 H4 v x4 rh4 re4 => f' α4 H4 v ((x2.trans x3).trans x4) rh4 re4
          | ex e4 env4 h4 =>
            rw [eb] at f'
            exact fun α4 H4 σ4 c4 d4 x4 rh4 re4 => f' α4 H4 σ4 c4 d4 ((x2.trans x3).trans x4) rh4 re4
          | no => rw [eb] at f'; exact f'
theorem ds_while {c : Expr} {fc : Ft} (hp : PassesOwn (model X.prog X.w) X.A X.env X.xe) (hc : DT X R W c fc) (hb : DSs X R W body fb) : DS X R W (.While c body [] pos) (sWhile fc fb) := by
  refine ⟨fun pins s σ H Dn I h => (ps_while hp hc hb).run pins s σ H Dn I ?_⟩
  obtain ⟨α, env, hp, re, rh, f⟩ := h
  refine ⟨fun m σ' H' => ∃ α' env' h', RelEnv R α' H' env' σ' ∧ RH R α' h' H' ∧ FinS R W α' H' Dn (whileL fc fb m env' h'), ⟨most, α, env, hp, re, rh, f⟩, ?_⟩
  rintro m σ' H' ⟨α', env', h', re', rh', f'⟩
  cases m with
  | zero => exact (show False from f').elim
  | succ m =>
    unfold whileL at f'
    refine ⟨α', env', h', re', rh', ?_⟩
    cases ec : fc env' h' with
    | no => rw [ec] at f'; exact f'
    | ex e h1 => rw [ec] at f'; exact fun α1 H1 cls dd x1 rh1 r1 => f' α1 H1 σ' cls dd x1 rh1 (re'.ext x1) r1
    | ok b h1 =>
      rw [ec] at f'
      intro α1 H1 b' x1 rh1 r1
      have r1 : b = b' := r1
      subst r1
      cases b with
      | false => exact f' α1 H1 σ' x1 rh1 (re'.ext x1)
      | true =>
        dsimp only at f'
        refine ⟨fun σ2 H2 => ∃ α2 env2 h2, RelEnv R α2 H2 env2 σ2 ∧ RH R α2 h2 H2 ∧ FinS R W α2 H2 Dn (whileL fc fb m env2 h2), fun σ2 H2 hn => ⟨m, Nat.lt_succ_self m, hn⟩, ?_⟩
        refine ⟨α1, env', h1, re'.ext x1, rh1, ?_⟩
        cases eb : fb env' h1 with
        | nx env4 h4 =>
          rw [eb] at f'
          exact fun α4 H4 σ4 x4 rh4 re4 => ⟨α4, env4, h4, re4, rh4, f'.mono (x1.trans x4)⟩
        | ct env4 h4 =>
          rw [eb] at f'
          exact fun α4 H4 σ4 x4 rh4 re4 => ⟨α4, env4, h4, re4, rh4, f'.mono (x1.trans x4)⟩
        | bk env4 h4 =>
          rw [eb] at f'
          exact fun α4 H4 σ4 x4 rh4 re4 => f' α4 H4 σ4 (x1.trans x4) rh4 re4
        | rt d4 h4 =>
          rw [eb] at f'
          exact fun α4 H4 v x4 rh4 re4 => f' α4 H4 v (x1.trans x4) rh4 re4
        | ex e4 env4 h4 =>
          rw [eb] at f'
          exact fun α4 H4 σ4 c4 d4 x4 rh4 re4 => f' α4 H4 σ4 c4 d4 (x1.trans x4) rh4 re4
        | no => rw [eb] at f'; exact f'
end
end Mi

set_option Elab.async false
set_option linter.all false
set_option maxRecDepth 100000
set_option maxHeartbeats 1000000
namespace Mi
open PySem PySem.Spec PyProof.Rows L2

/-! ### comprehensions -/
@[simp] def wipeE (env : En) : List Nat → En
  | [] => env
  | v :: vs => (wipeE env vs).set v none
def lcL (src : Src) (tg : Fg) (tst : Ft) (el : Fe) (env : En) (k : Nat) : Nat → Nat → Hd → Res D
  | 0, _, _ => .no
  | n + 1, i, h => match src h i with
    | .stop => .ok (.ref k) h
    | .bad => .no
    | .item d => (match tg d env h with
      | none => .no
      | some (env1, h1) => (match tst env1 h1 with
        | .ok false h2 => lcL src tg tst el env k n (i + 1) h2
        | .ok true h2 => (match el env1 h2 with
          | .ok y h3 => (match h3[k]? with
            | some (.lst acc) => if acc.length < 16777216 then lcL src tg tst el env k n (i + 1) (h3.set k (.lst (acc ++ [y]))) else .no
            | _ => .no)
          | _ => .no)
        | _ => .no))
noncomputable def eLc (it : Fi) (tg : Fg) (tst : Ft) (el : Fe) (vs : List Nat) : Fe := fun env h => match it env h with
  | .ok src h1 => lcL src tg tst el (wipeE env vs) h1.length most 0 (h1 ++ [.lst []])
  | .ex e h1 => .ex e h1
  | .no => .no
@[simp] def tYesD : Ft := fun _ h => .ok true h
def W0 : WX := fun _ _ _ _ => False
abbrev DTs (X : Cx) (R : Rx) (W : WX) (es : List Expr) (f : Ft) : Prop := PTs X es (tT R W f)
section
variable {R : Rx} {α : List Addr} {H : Hp}
theorem RelEnv.wipe {env : En} {σ : St} (r : RelEnv R α H env σ) : ∀ vs : List Nat, RelEnv R α H (wipeE env vs) (wipe σ vs)
  | [] => r
  | v :: vs => by
    unfold wipeE L2.wipe
    exact (RelEnv.wipe r vs).clear
theorem wipe_in {σ : St} {i : Nat} : ∀ {vs : List Nat}, i ∈ vs → i < σ.length → (wipe σ vs)[i]? = some none
  | [], h, _ => by simp at h
  | v :: vs, h, hl => by
    unfold L2.wipe
    by_cases e : v = i
    · subst e
      exact List.getElem?_set_self (by rw [wipe_length]; exact hl)
    · rw [List.getElem?_set_ne e]
      exact wipe_in (by
        rcases List.mem_cons.mp h with z | z
        · exact absurd z.symm e
        · exact z) hl
theorem wipe_keep {σ s : St} {ts vs : List Nat} (k : Keep ts (wipe σ vs) s) (hs : ∀ i ∈ ts, i ∈ vs) : wipe s vs = wipe σ vs := by
  have hl : s.length = σ.length := by rw [k.1, wipe_length]
  refine List.ext_getElem? fun i => ?_
  by_cases hi : i ∈ vs
  · by_cases hb : i < σ.length
    · rw [wipe_in hi hb, wipe_in hi (by rw [hl]; exact hb)]
    · rw [List.getElem?_eq_none (by rw [wipe_length]; omega), List.getElem?_eq_none (by rw [wipe_length]; omega)]
  · rw [wipe_out hi, k.2 i (fun z => hi (hs i z))]
end
section
variable {X : Cx} {R : Rx} {W : WX} {pos : Pos}
theorem dts_nil : DTs X R W [] tYesD := by
  refine ⟨fun pins s σ H Q I h => pts_nil.run pins s σ H Q I ?_⟩
  obtain ⟨α, env, hp, re, rh, fi⟩ := h
  exact fi α H true .refl rh rfl
theorem dts_one {c : Expr} {f : Ft} (h : DT X R W c f) : DTs X R W [c] f := pts_one h
theorem lc_turns {σ : St} {wi : TI} {src : Src} {J : It} {tg : Fg} {tst : Ft} {el : Fe} {env : En} {vs ts : List Nat} {α1 : List Addr} {h1 : Hd} {H1 : Hp} {Q : VK} (re : RelEnv R α1 H1 env σ) (rh : RH R α1 h1 H1) (rj : RelI R α1 H1 src J) (hts : ∀ i ∈ ts, i ∈ vs)
    (f : FinE R W α1 H1 σ (lcL src tg tst el (wipeE env vs) h1.length most 0 (h1 ++ [.lst []])) Q) (D : Addr) (hD : H1 D = none) :
    ∃ W' : Nat → Nat → Hp → Prop, (∃ m, W' 0 m (upd H1 D (.lst []))) ∧ ∀ i m H, W' i m H →
      (J.stop i H ∧ Q (.ref D) H) ∨ (J.go i H ∧ ∃ Nx : Hp → Prop, (∀ H', Nx H' → ∃ m', m' < m ∧ W' (i + 1) m' H') ∧ ∀ x H', J.yld i H x H' → tG R ts tg x (wipe σ vs) H' fun σ2 H2 => wipe σ2 vs = wipe σ vs ∧ tT R W0 tst σ2 H2 fun b H3 =>
        if b = true then tE R W0 el σ2 H3 fun y H4 => ∃ acc, H4 D = some (.lst acc) ∧ acc.length < sizeLine ∧ Nx (upd H4 D (.lst (acc ++ [y]))) else Nx H3) := by
  have x0 : Ext α1 H1 (α1 ++ [D]) (upd H1 D (.lst [])) := Ext.new hD
  have rh0 : RH R (α1 ++ [D]) (h1 ++ [.lst []]) (upd H1 D (.lst [])) := rh.new hD ⟨[], upd_same, .nil⟩
  have hD0 : (α1 ++ [D])[h1.length]? = some D := rh.new_at
  refine ⟨fun i m H => ∃ α' h', Ext (α1 ++ [D]) (upd H1 D (.lst [])) α' H ∧ RH R α' h' H ∧ FinE R W α' H σ (lcL src tg tst el (wipeE env vs) h1.length m i h') Q, ⟨most, _, _, .refl, rh0, f.mono x0⟩, ?_⟩
  rintro i m H ⟨α', h', xx, rh', f'⟩
  cases m with
  | zero => exact (show False from f').elim
  | succ m =>
    have rj' := rj α' H h' i (x0.trans xx) rh'
    unfold lcL at f'
    cases es : src h' i with
    | bad => rw [es] at f'; exact (show False from f').elim
    | stop =>
      rw [es] at f' rj'
      exact .inl ⟨rj', f' α' H _ .refl rh' (.ref (xx.get hD0))⟩
    | item d =>
      rw [es] at f' rj'
      dsimp only at f'
      refine .inr ⟨rj'.1, fun H2 => ∃ α2 h2, Ext (α1 ++ [D]) (upd H1 D (.lst [])) α2 H2 ∧ RH R α2 h2 H2 ∧ FinE R W α2 H2 σ (lcL src tg tst el (wipeE env vs) h1.length m (i + 1) h2) Q, fun H2 hn => ⟨m, Nat.lt_succ_self m, hn⟩, fun x H2 hy => ?_⟩
      obtain ⟨x2, rh2, rd2⟩ := rj'.2 x H2 hy
      refine ⟨α', wipeE env vs, h', d, (RelEnv.wipe re vs).ext ((x0.trans xx).trans x2), rh2, rd2, ?_⟩
      cases eg : tg d (wipeE env vs) h' with
      | none => rw [eg] at f'; exact (show False from f').elim
      | some p =>
        obtain ⟨env3, h3⟩ := p
        rw [eg] at f'
        dsimp only at f'
        intro α3 H3 σ3 x3 rh3 re3 k3
        refine ⟨wipe_keep k3 hts, α3, env3, h3, re3, rh3, ?_⟩
        cases et : tst env3 h3 with
        | no => rw [et] at f'; exact (show False from f').elim
        | ex e h4 => rw [et] at f'; exact (show False from f').elim
        | ok b h4 =>
          rw [et] at f'
          intro α4 H4 b' x4 rh4 e4
          have e4 : b = b' := e4
          subst e4
          cases b with
          | false => exact ⟨α4, h4, ((xx.trans x2).trans x3).trans x4, rh4, f'.mono ((x2.trans x3).trans x4)⟩
          | true =>
            dsimp only at f'
            refine ⟨α4, env3, h4, re3.ext x4, rh4, ?_⟩
            cases ee : el env3 h4 with
            | no => rw [ee] at f'; exact (show False from f').elim
            | ex e h5 => rw [ee] at f'; exact (show False from f').elim
            | ok y h5 =>
              rw [ee] at f'
              dsimp only at f'
              intro α5 H5 v x5 rh5 rd5
              have xD : Ext (α1 ++ [D]) (upd H1 D (.lst [])) α5 H5 := (((xx.trans x2).trans x3).trans x4).trans x5
              obtain ⟨o, eo, ro⟩ := rh5.at (xD.get hD0)
              rw [eo] at f'
              cases o with
              | fro _ => exact (show False from f').elim
              | dic _ => exact (show False from f').elim
              | lst acc =>
                obtain ⟨ws, hw, rw'⟩ := ro
                dsimp only at f'
                split at f'
                · rename_i hl
                  refine ⟨ws, hw, by rw [← rw'.length, lineEq]; exact hl, ?_⟩
                  have xw : Ext α5 H5 α5 (upd H5 D (.lst (ws ++ [v]))) := Ext.write hw trivial
                  exact ⟨α5, h5.set h1.length (.lst (acc ++ [y])), xD.trans xw, rh5.write (xD.get hD0) hw trivial ⟨ws ++ [v], upd_same, RelDs.ext xw _ _ (rw'.append (.cons rd5 .nil))⟩,
                    f'.mono ((((x2.trans x3).trans x4).trans x5).trans xw)⟩
                · exact (show False from f').elim
theorem de_lc {elt tg iter : Expr} {ifs : List Expr} {scope : Scope} {own : List (Str × Nat)} {ts : List Nat} {fi : Fi} {fg : Fg} {ft : Ft} {fe : Fe} (hc : X.calm = true) (hN : X.N.Nodup) (hi : DI X R W tg iter fi) (ok : BlkOk X.N X.env.scope scope own) (hts : ∀ i ∈ ts, i ∈ own.map (·.2))
    (hg : ∀ (s : Shared) (H : Hp) (C : Addr) (cl : List (Str × Addr)) (fp : List Addr), DG (X.blk s H scope (compEnvC scope cl C X.env) fp) R tg ts fg) (ht : ∀ (s : Shared) (H : Hp) (C : Addr) (cl : List (Str × Addr)) (fp : List Addr), DTs (X.blk s H scope (compEnvC scope cl C X.env) fp) R W0 ifs ft)
    (he : ∀ (s : Shared) (H : Hp) (C : Addr) (cl : List (Str × Addr)) (fp : List Addr), DE (X.blk s H scope (compEnvC scope cl C X.env) fp) R W0 elt fe) (hs : ∀ x, foldedSetIterable iter X.env x = pure x := by intro _; rfl) :
    DE X R W (.ListComp elt [⟨tg, iter, ifs, 0⟩] scope pos) (eLc fi fg ft fe (own.map (·.2))) := by
  refine ⟨fun pins s σ H Q I h => (pe_lc hc hN hi ok hg ht he hs).run pins s σ H Q I ?_⟩
  obtain ⟨α, env, hp, re, rh, f⟩ := h
  refine ⟨α, env, hp, re, rh, ?_⟩
  have f : FinE R W α H σ (match fi env hp with
    | .ok src h1 => lcL src fg ft fe (wipeE env (own.map (·.2))) h1.length most 0 (h1 ++ [.lst []])
    | .ex e h1 => .ex e h1
    | .no => .no) Q := f
  cases er : fi env hp with
  | no => rw [er] at f; exact f
  | ex e h1 => rw [er] at f; exact f
  | ok src h1 =>
    rw [er] at f
    intro α1 H1 J x1 rh1 rj
    exact fun D hD => lc_turns (wi := tI R W fi) (re.ext x1) rh1 rj hts (f.mono x1) D hD
theorem ds_setLc (i : Nat) {y : Str} {py : Pos} {elt tg iter : Expr} {ifs : List Expr} {scope : Scope} {own : List (Str × Nat)} {ts : List Nat} {fi : Fi} {fg : Fg} {ft : Ft} {fe : Fe} {spos : Pos} (hc : X.calm = true) (hN : X.N.Nodup) (hy : X.N[i]? = some y) (hyl : X.env.scope.names.lookup y = some .local)
    (hsw : swapsWith (.ListComp elt [⟨tg, iter, ifs, 0⟩] scope pos) (some (.Name y py)) spos.line X.env = pure true) (hi : DI X R W tg iter fi) (ok : BlkOk X.N X.env.scope scope own) (hts : ∀ i ∈ ts, i ∈ own.map (·.2))
    (hg : ∀ (s : Shared) (H : Hp) (C : Addr) (cl : List (Str × Addr)) (fp : List Addr), DG (X.blk s H scope (compEnvC scope cl C X.env) fp) R tg ts fg) (ht : ∀ (s : Shared) (H : Hp) (C : Addr) (cl : List (Str × Addr)) (fp : List Addr), DTs (X.blk s H scope (compEnvC scope cl C X.env) fp) R W0 ifs ft)
    (he : ∀ (s : Shared) (H : Hp) (C : Addr) (cl : List (Str × Addr)) (fp : List Addr), DE (X.blk s H scope (compEnvC scope cl C X.env) fp) R W0 elt fe) (hs : ∀ x, foldedSetIterable iter X.env x = pure x := by intro _; rfl) :
    DS X R W (.Assign [.Name y py] (.ListComp elt [⟨tg, iter, ifs, 0⟩] scope pos) spos) (sAsg (eLc fi fg ft fe (own.map (·.2))) (gSet i)) := by
  refine ⟨fun pins s σ H Dn I h => (ps_setLc hc hN hy hyl hsw hi ok hg ht he hs).run pins s σ H Dn I ?_⟩
  obtain ⟨α, env, hp, re, rh, f⟩ := h
  refine ⟨α, env, hp, re, rh, ?_⟩
  have f0 := finS_of re f
  have f : FinE R W α H σ (match fi env hp with
    | .ok src h1 => lcL src fg ft fe (wipeE env (own.map (·.2))) h1.length most 0 (h1 ++ [.lst []])
    | .ex e h1 => .ex e h1
    | .no => .no) _ := f0
  cases er : fi env hp with
  | no => rw [er] at f; exact f
  | ex e h1 => rw [er] at f; exact f
  | ok src h1 =>
    rw [er] at f
    intro α1 H1 J x1 rh1 rj
    refine fun D hD => lc_turns (wi := tI R W fi) (Q := fun x H1 => gName i x σ H1 Dn.nx) (re.ext x1) rh1 rj hts ((f.mono x1).imp fun v H2 hq => ?_) D hD
    obtain ⟨d, α2, h2, _, x2, rh2, r2, f2⟩ := hq
    have f2 : FinS R W α2 H2 Dn (match gSet i d env h2 with
      | some (env1, h1) => .nx env1 h1
      | none => .no) := f2
    unfold gSet at f2
    split at f2
    · rename_i he
      split at he
      · cases he
        exact f2 α2 H2 _ .refl rh2 ((re.ext x2).set r2)
      · cases he
    · exact (show False from f2).elim
end

/-! ### defs -/
def spD (R : Rx) (n : Nat) (F : List D → Hd → Res D) : Sp := fun vs H Q E => vs.length = n ∧ ∃ α ds h, RelDs R α H ds vs ∧ RH R α h H ∧ (match F ds h with
  | .ok d h' => ∀ α' H' v, Ext α H α' H' → RH R α' h' H' → RelD R α' H' d v → Q v H'
  | .ex e h' => ∀ α' H' cls dd, Ext α H α' H' → RH R α' h' H' → RelX R α' H' e cls dd → E cls (some dd) H'
  | .no => False)
@[simp] def runF (m : Nat) (fb : Fs) : List D → Hd → Res D := fun ds h => match fb (ds.map some ++ List.replicate (m - ds.length) none) h with
  | .nx _ h' => .ok .non h'
  | .rt d h' => .ok d h'
  | .ex e _ h' => .ex e h'
  | _ => .no
abbrev rx (K : PySem.W.Frag) (mg : Str → Option Value) : Rx := ⟨K, mg, fun _ => none⟩
/-- room, and no guard stands -/
structure RoomG (k : Nat) (A : Around) : Prop where
  rm : Room k A
  gd : A.guards = some []
theorem RoomG.mono {j k : Nat} {A : Around} (r : RoomG k A) (h : j ≤ k) : RoomG j A := ⟨r.rm.mono h, r.gd⟩
theorem RoomG.deeper {k : Nat} {A : Around} (r : RoomG (k + 1) A) (env : Env) : RoomG k (A.deeper env) := ⟨r.rm.deeper env, r.gd⟩
/-- a def's promise where no guard stands -/
structure FnG (P : Program) (w : World) (K : PySem.W.Frag) (mg : Str → Option Value) (base : Heap) (CX : CXT) (k : Nat) (f : Addr) (fd : FuncData) (ps : List Str) (sp : Sp) : Prop where
  len : ∀ vs H Q E, sp vs H Q E → vs.length = ps.length
  run : ∀ (A : Around) (outer : List Env) (s : Shared) (H : Hp) (args : Args) (us : List Value) (vs : List V) (Q : VK) (E : XK), RoomG k A → Env0 P w K mg base A outer s H → BindsTo s fd args (ps.zip us) → Vals vs us → sp vs H Q E →
    codeAny (model P w) A (.call (.ref f) args) (CR CX outer P w H s Q E) s
theorem FnG.mono {P : Program} {w : World} {K : PySem.W.Frag} {mg : Str → Option Value} {base : Heap} {CX : CXT} {j k : Nat} {f : Addr} {fd : FuncData} {ps : List Str} {sp : Sp} (F : FnG P w K mg base CX j f fd ps sp) (h : j ≤ k) :
    FnG P w K mg base CX k f fd ps sp := ⟨F.len, fun A outer s H args us vs Q E hr => F.run A outer s H args us vs Q E (hr.mono h)⟩
theorem fnG_of {CX : CXT} {P : Program} {w : World} {K : PySem.W.Frag} {mg : Str → Option Value} {base : Heap} {k : Nat} {f : Addr} {name qual : Str} {params : Arguments} {body : List Stmt} {scope : Scope} {dV kV doc pm cdv ct oc : Value} {an od : Option Addr}
    {osl : Array (Option Value)} {N ps : List Str} {sp : Sp} (lk : K.lookup f = some ⟨oc, od, .func (PySem.W.fnOf name qual params body scope dV kV doc pm an cdv ct), osl⟩) (hcd : PySem.W.codeIn K cdv qual = true) (S : FnScope N ps scope)
    (len : ∀ vs H Q E, sp vs H Q E → vs.length = ps.length)
    (hbody : ∀ (A : Around) (outer : List Env) (s : Shared) (H : Hp) (vs : List V) (Q : VK) (E : XK), RoomG k (A.deeper (envOfC qual scope s.heap.objs.size f cdv)) → sp vs H Q E →
      ∃ t, PSs (cxOf CX P w K mg base N qual scope f cdv A outer s H E) body t ∧ t { nx := fun _ H' => Q .non H', rt := Q } (start N vs) H) :
    FnG P w K mg base CX (k + 1) f (PySem.W.fnOf name qual params body scope dV kV doc pm an cdv ct) ps sp := by
  refine ⟨len, fun A outer s H args us vs Q E hr e0 hb r hsp => ?_⟩
  have KX : K.In s.heap := e0.mod.kin.keeps fun b o e => (e0.bs b o e).1
  have lim : s.heap.NoLimit := e0.mod.nolimit.keeps fun b o e => (e0.bs b o e).1
  have hkind : ∀ y ∈ ps.zip us, scope.names.lookup y.1 = some .local ∨ (scope.names.lookup y.1 = some .cell ∧ ((cellsFrom (s.heap.objs.size + 1) scope.names []).lookup y.1).isSome = true) := fun ⟨n, v⟩ hy => by
    rcases S.par n (List.of_mem_zip hy).1 with q | q
    · exact .inl q
    · exact .inr ⟨q, PySem.W.cellsFrom_some _ _ _ (.inl q)⟩
  refine codeAny_call_function hr.rm.depth (KX _ _ lk) rfl S.co S.gen rfl (PySem.W.codeRec_of KX hcd) (hb _ _ _ _ ?_)
  refine wpAny_newFunctionEnv_cells S.kind hkind fun env he s1 x => ?_
  subst he
  refine ⟨lim.keeps x.toInCall.keep, codeAny_func ?_⟩
  obtain ⟨t, ht, hq⟩ := hbody A outer s H vs Q E (hr.deeper _) hsp
  refine wpAny_mono (ht.run [] s1 (start N vs) H _ (inv_start S hr.rm.hd e0 (len _ _ _ _ hsp) r x) hq) (fun fl s' hs => ?_) fun e s' hs => hs
  cases fl with
  | ret u =>
    obtain ⟨v, σ', H', J, rv, q⟩ := hs
    exact ⟨v, H', J.os, J.bare, J.base, J.hok, rv, q⟩
  | next =>
    obtain ⟨σ', H', J, q⟩ := hs
    exact ⟨.non, H', J.os, J.bare, J.base, J.hok, rfl, q⟩
  | brk => obtain ⟨_, _, _, q⟩ := hs; exact False.elim q
  | cont => obtain ⟨_, _, _, q⟩ := hs; exact False.elim q
structure FDx (P : Program) (w : World) (K : PySem.W.Frag) (mg : Str → Option Value) (base : Heap) (d : He.DefD) (ps : List Str) (k : Nat) (F : List D → Hd → Res D) : Prop where
  ex : ∃ fd, FunD K d.name d.qual d.params d.body d.scope (d.dvs K) (d.kws K) (He.fAd K d.at_) fd ∧ FnG P w K mg base (L2.CX P w) k (He.fAd K d.at_) fd ps (spD (rx K mg) ps.length F)
section
variable {P : Program} {w : World} {K : PySem.W.Frag} {mg : Str → Option Value} {base : Heap} {d : He.DefD} {N ps : List Str} {k : Nat}
theorem RelEnv.start {R : Rx} {α : List Addr} {H : Hp} {ds : List D} {vs : List V} (r : RelDs R α H ds vs) : RelEnv R α H (ds.map some ++ List.replicate (N.length - ds.length) none) (L2.start N vs) := by
  have hl := r.length
  unfold L2.start
  refine ⟨by simp [hl], fun i d e => ?_⟩
  by_cases hi : i < ds.length
  · rw [List.getElem?_append_left (by simpa using hi), List.getElem?_map] at e
    cases e2 : ds[i]? with
    | none => rw [e2] at e; cases e
    | some d' =>
      rw [e2] at e
      cases e
      obtain ⟨v, h1, h2⟩ := r.get e2
      exact ⟨v, by rw [List.getElem?_append_left (by rw [List.length_map, ← hl]; exact hi), List.getElem?_map, h1]; rfl, h2⟩
  · rw [List.getElem?_append_right (by simpa using hi), List.getElem?_replicate] at e
    split at e <;> cases e
theorem fd_ok (F : ∃ fd, FunD K d.name d.qual d.params d.body d.scope (d.dvs K) (d.kws K) (He.fAd K d.at_) fd) (S : FnScope N ps d.scope) {fb : Fs}
    (hb : ∀ (cdv : Value) (A : Around) (outer : List PySem.Env) (s : Shared) (H : Hp) (E : XK), RoomG k (A.deeper (envOfC d.qual d.scope s.heap.objs.size (He.fAd K d.at_) cdv)) →
      DSs (cxOf (L2.CX P w) P w K mg base N d.qual d.scope (He.fAd K d.at_) cdv A outer s H E) (rx K mg) (fun cls dd _ H => E cls dd H) d.body fb) : FDx P w K mg base d ps (k + 1) (runF N.length fb) := by
  obtain ⟨fd, F⟩ := F
  obtain ⟨oc, od, dV, kV, doc, pm, an, cdv, ct, osl, e, lk, hcd, _, _⟩ := id F.ex
  refine ⟨fd, F, ?_⟩
  subst e
  refine fnG_of lk hcd S (fun vs H Q E h => h.1) fun A outer s H vs Q E hr h => ⟨_, hb cdv A outer s H E hr, ?_⟩
  obtain ⟨_, α, ds, hp, rd, rh, f⟩ := h
  refine ⟨α, _, hp, RelEnv.start rd, rh, ?_⟩
  unfold runF at f
  cases eb : fb (ds.map some ++ List.replicate (N.length - ds.length) none) hp with
  | nx env h' => rw [eb] at f; exact fun α1 H1 σ1 x1 rh1 _ => f α1 H1 .non x1 rh1 .non
  | rt d h' => rw [eb] at f; exact f
  | ex e env h' => rw [eb] at f; exact fun α1 H1 σ1 cls dd x1 rh1 _ rx => f α1 H1 cls dd x1 rh1 rx
  | bk env h' => rw [eb] at f; exact (show False from f).elim
  | ct env h' => rw [eb] at f; exact (show False from f).elim
  | no => rw [eb] at f; exact f
end
/-- a call of a def -/
@[simp] def eCall (F : List D → Hd → Res D) (fa : Fa) : Fe := fun env h => (fa env h).bind F
@[simp] def eCallK (F : List D → Hd → Res D) (g : List D → List D → List D) (fa fk : Fa) : Fe := fun env h => (fa env h).bind fun ds h1 => (fk env h1).bind fun ws h2 => F (g ds ws) h2
/-- how a call's values come to the parameters -/
structure Bnd (K : PySem.W.Frag) (fd : FuncData) (ps : List Str) (n : Nat) (ks : List Str) (gD : List D → List D → List D) : Prop where
  ex : ∃ g gV, KBn K fd ps n ks g gV ∧ (∀ vs zs, vs.length = n → zs.length = ks.length → (gV vs zs).length = ps.length) ∧ ∀ (R : Rx) α H ds vs ws zs, RelDs R α H ds vs → RelDs R α H ws zs → RelDs R α H (gD ds ws) (gV vs zs)
abbrev DK (X : Cx) (R : Rx) (W : WX) (kws : List Keyword) (f : Fa) : Prop := PK X kws (tA R W f)
section
variable {X : Cx} {W : WX} {pos : Pos} {d : He.DefD} {ps ks : List Str} {k n : Nat} {F : List D → Hd → Res D} {x : Str} {p : Pos} {e : Expr} {es : List Expr} {kws : List Keyword} {fa fk : Fa} {gD : List D → List D → List D}
theorem dk_nil : DK X (rx X.K X.mg) W [] aNil := by
  refine ⟨fun pos pins s σ H Q I h => pk_nil.run pos pins s σ H Q I ?_⟩
  obtain ⟨α, env, hp, re, rh, fi⟩ := h
  exact fi α H [] .refl rh .nil
theorem dk_cons {nm : Option Str} {kpos : Pos} {fe : Fe} (ha : DE X (rx X.K X.mg) W e fe) (hr : DK X (rx X.K X.mg) W kws fa) : DK X (rx X.K X.mg) W (⟨nm, e, kpos⟩ :: kws) (aCons fe fa) := by
  refine ⟨fun pos pins s σ H Q I h => (pk_cons ha hr).run pos pins s σ H Q I ?_⟩
  obtain ⟨α, env, hp, re, rh, fi⟩ := h
  refine ⟨α, env, hp, re, rh, (Fin.split fi).imp fun v H1 hq => ?_⟩
  obtain ⟨d, α1, h1, _, x1, rh1, r1, f1⟩ := hq
  refine ⟨α1, env, h1, re.ext x1, rh1, (Fin.split f1).imp fun vs H2 hq => ?_⟩
  obtain ⟨ds, α2, h2, _, x2, rh2, r2, f2⟩ := hq
  exact f2 α2 H2 _ .refl rh2 (.cons (RelD.ext x2 _ _ r1) r2)
theorem run_fd {pins : List (Addr × Obj)} {σ : St} {H : Hp} {s : Shared} {Q : VK} {us ws : List Value} {vs zs : List V} {ds dz : List D} {α : List Addr} {h : Hd} {fd : FuncData} {f : Addr} (Fk : FnG X.prog X.w X.K X.mg X.base (L2.CX X.prog X.w) k f fd ps (spD (rx X.K X.mg) ps.length F)) (hr : RoomG k X.A)
    (hb : Bnd X.K fd ps n ks gD) (tk : Takes X W) (I : Inv X pins σ H s) (r : Vals vs us) (rz : Vals zs ws) (l1 : vs.length = n) (l2 : zs.length = ks.length) (rd : RelDs (rx X.K X.mg) α H ds vs) (rdz : RelDs (rx X.K X.mg) α H dz zs) (rh : RH (rx X.K X.mg) α h H)
    (fi : FinE (rx X.K X.mg) W α H σ (F (gD ds dz) h) Q) : wpAny (model X.prog X.w) X.A (call (.ref f) us (ks.zip ws)) (EP X pins σ Q) X.xe s := by
  obtain ⟨g, gV, kb, hl, hrel⟩ := hb.ex
  have r2 := kb.rel r rz
  have sp : spD (rx X.K X.mg) ps.length F (gV vs zs) H Q (fun cls dd H' => W cls dd σ H') := by
    refine ⟨hl vs zs l1 l2, α, gD ds dz, h, hrel _ _ _ _ _ _ _ rd rdz, rh, ?_⟩
    cases eF : F (gD ds dz) h with
    | ok d h' => rw [eF] at fi; exact fi
    | ex e h' => rw [eF] at fi; exact fi
    | no => rw [eF] at fi; exact fi
  refine wpAny_call (codeAny_mono (Fk.run X.A X.stack s H ⟨us, ks.zip ws⟩ (g us ws) (gV vs zs) Q (fun cls dd H' => W cls dd σ H') hr I.env0 (kb.to s us ws I.kIn (r.length.symm.trans l1) (rz.length.symm.trans l2)) r2 sp) fun r s' hq => ?_)
  cases r with
  | error e => exact tk e s' (XE.of_call I (fun _ _ _ h => h) hq)
  | ok fl =>
    cases fl with
    | ret u => exact I.after hq
    | next => exact False.elim hq
    | brk => exact False.elim hq
    | cont => exact False.elim hq
theorem de_call (hF : FDx X.prog X.w X.K X.mg X.base d ps k F) (hr : RoomG k X.A) (hg : Gl X x) (hm : X.mg x = some (.ref (He.fAd X.K d.at_))) (tk : Takes X W)
    (hb : ∀ fd, FunD X.K d.name d.qual d.params d.body d.scope (d.dvs X.K) (d.kws X.K) (He.fAd X.K d.at_) fd → Bnd X.K fd ps (e :: es).length [] (fun ds _ => gD ds [])) (ha : DA X (rx X.K X.mg) W (e :: es) fa) (hlen : ∀ env h ds h1, fa env h = .ok ds h1 → ds.length = (e :: es).length)
    (hdb : (x == ("__debug__" : Str)) = false := by decide) (he : starEach (e :: es) X.env = (false, eval e X.env) :: starEach es X.env := by rfl) (hpl : (backTo pos (starEach es X.env)).any (·.1) = false := by rfl) :
    DE X (rx X.K X.mg) W (.Call (.Name x p) (e :: es) [] pos) (eCall (fun ds => F (gD ds [])) fa) := by
  refine ⟨fun pins s σ H Q I h => ?_⟩
  obtain ⟨fd, FD, Fk⟩ := hF.ex
  obtain ⟨α, env, hp, re, rh, fi⟩ := h
  refine wpAny_Call_Name_kw (ld_glob I hg hm ?_ hdb)
  refine PySem.W.callWith_K (h₀ := X.base) I.ok.mod.kin FD.kp (thn (ha.run pos pins s σ H _ I ⟨α, env, hp, re, rh, Fin.split (g := fun ds => F (gD ds [])) fi⟩) fun us s1 ⟨vs, H1, I1, r, q⟩ => ⟨I1.kIn, ?_⟩) he hpl
  obtain ⟨ds, α1, h1, e1, x1, rh1, rd1, f1⟩ := q
  exact run_fd (ws := []) (zs := []) (dz := []) Fk hr (hb fd FD) tk I1 r .nil (rd1.length.symm.trans (hlen _ _ _ _ e1)) rfl rd1 .nil rh1 f1
theorem de_call0 (hF : FDx X.prog X.w X.K X.mg X.base d ps k F) (hr : RoomG k X.A) (hg : Gl X x) (hm : X.mg x = some (.ref (He.fAd X.K d.at_))) (tk : Takes X W)
    (hb : ∀ fd, FunD X.K d.name d.qual d.params d.body d.scope (d.dvs X.K) (d.kws X.K) (He.fAd X.K d.at_) fd → Bnd X.K fd ps 0 [] (fun ds _ => gD ds []))
    (hdb : (x == ("__debug__" : Str)) = false := by decide) :
    DE X (rx X.K X.mg) W (.Call (.Name x p) [] [] pos) (eCall (fun ds => F (gD ds [])) aNil) := by
  refine ⟨fun pins s σ H Q I h => ?_⟩
  obtain ⟨fd, FD, Fk⟩ := hF.ex
  obtain ⟨α, env, hp, re, rh, fi⟩ := h
  refine wpAny_Call_Name_kw (ld_glob I hg hm ?_ hdb)
  exact PySem.W.callWith_K0 I.kIn FD.kp (run_fd (us := []) (ws := []) (vs := []) (zs := []) (ds := []) (dz := []) Fk hr (hb fd FD) tk I .nil .nil rfl rfl .nil .nil rh fi)
theorem de_callK (hF : FDx X.prog X.w X.K X.mg X.base d ps k F) (hr : RoomG k X.A) (hg : Gl X x) (hm : X.mg x = some (.ref (He.fAd X.K d.at_))) (tk : Takes X W)
    (hb : ∀ fd, FunD X.K d.name d.qual d.params d.body d.scope (d.dvs X.K) (d.kws X.K) (He.fAd X.K d.at_) fd → Bnd X.K fd ps (e :: es).length ks gD) (ha : DA X (rx X.K X.mg) W (e :: es) fa) (hlen : ∀ env h ds h1, fa env h = .ok ds h1 → ds.length = (e :: es).length)
    (hkw : DK X (rx X.K X.mg) W kws fk) (hlenk : ∀ env h ds h1, fk env h = .ok ds h1 → ds.length = ks.length) (hall : (backToKw pos (keywordEach kws X.env)).all (·.1.isSome) = true := by rfl) (hks : (backToKw pos (keywordEach kws X.env)).filterMap (·.1) = ks := by rfl)
    (hdb : (x == ("__debug__" : Str)) = false := by decide) (he : starEach (e :: es) X.env = (false, eval e X.env) :: starEach es X.env := by rfl)
    (hpl : ((backTo pos (starEach (e :: es) X.env)).any (·.1) || (backToKw pos (keywordEach kws X.env)).any (·.1.isNone)) = false := by rfl) :
    DE X (rx X.K X.mg) W (.Call (.Name x p) (e :: es) kws pos) (eCallK F gD fa fk) := by
  refine ⟨fun pins s σ H Q I h => ?_⟩
  obtain ⟨fd, FD, Fk⟩ := hF.ex
  obtain ⟨α, env, hp, re, rh, fi⟩ := h
  refine wpAny_Call_Name_kw (ld_glob I hg hm ?_ hdb)
  refine PySem.W.callWith_KW (h₀ := X.base) I.ok.mod.kin FD.kp hall (thn (ha.run pos pins s σ H _ I ⟨α, env, hp, re, rh, Fin.split (g := fun ds h1 => (fk env h1).bind fun ws h2 => F (gD ds ws) h2) fi⟩) fun us s1 ⟨vs, H1, I1, r, q⟩ => ?_) hpl he
  obtain ⟨ds, α1, h1, e1, x1, rh1, rd1, f1⟩ := q
  refine thn (hkw.run pos pins s1 σ H1 _ I1 ⟨α1, env, h1, re.ext x1, rh1, Fin.split f1⟩) fun ws s2 ⟨zs, H2, I2, rz, q2⟩ => ⟨I2.kIn, ?_⟩
  obtain ⟨dz, α2, h2, e2, x2, rh2, rd2, f2⟩ := q2
  rw [hks]
  exact run_fd Fk hr (hb fd FD) tk I2 r rz (rd1.length.symm.trans (hlen _ _ _ _ e1)) (rd2.length.symm.trans (hlenk _ _ _ _ e2)) (RelDs.ext x2 _ _ rd1) rd2 rh2 f2
theorem de_callK0 (hF : FDx X.prog X.w X.K X.mg X.base d ps k F) (hr : RoomG k X.A) (hg : Gl X x) (hm : X.mg x = some (.ref (He.fAd X.K d.at_))) (tk : Takes X W)
    (hb : ∀ fd, FunD X.K d.name d.qual d.params d.body d.scope (d.dvs X.K) (d.kws X.K) (He.fAd X.K d.at_) fd → Bnd X.K fd ps 0 ks gD)
    (hkw : DK X (rx X.K X.mg) W kws fk) (hlenk : ∀ env h ds h1, fk env h = .ok ds h1 → ds.length = ks.length) (hall : (backToKw pos (keywordEach kws X.env)).all (·.1.isSome) = true := by rfl) (hks : (backToKw pos (keywordEach kws X.env)).filterMap (·.1) = ks := by rfl)
    (hdb : (x == ("__debug__" : Str)) = false := by decide)
    (hpl : ((backTo pos (starEach [] X.env)).any (·.1) || (backToKw pos (keywordEach kws X.env)).any (·.1.isNone)) = false := by rfl) :
    DE X (rx X.K X.mg) W (.Call (.Name x p) [] kws pos) (eCallK F gD aNil fk) := by
  refine ⟨fun pins s σ H Q I h => ?_⟩
  obtain ⟨fd, FD, Fk⟩ := hF.ex
  obtain ⟨α, env, hp, re, rh, fi⟩ := h
  refine wpAny_Call_Name_kw (ld_glob I hg hm ?_ hdb)
  refine PySem.W.callWith_KW0 (h₀ := X.base) I.ok.mod.kin FD.kp hall (thn (hkw.run pos pins s σ H _ I ⟨α, env, hp, re, rh, Fin.split (r := fk env hp) fi⟩) fun ws s2 ⟨zs, H2, I2, rz, q2⟩ => ⟨I2.kIn, ?_⟩) hpl
  obtain ⟨dz, α2, h2, e2, x2, rh2, rd2, f2⟩ := q2
  rw [hks]
  exact run_fd (us := []) (vs := []) (ds := []) Fk hr (hb fd FD) tk I2 .nil rz rfl (rd2.length.symm.trans (hlenk _ _ _ _ e2)) .nil rd2 rh2 f2
end
end Mi

set_option Elab.async false
set_option linter.all false
set_option maxRecDepth 100000
set_option maxHeartbeats 1000000
/-! ### own exception classes whose __init__ calls a base's and keeps one field -/
namespace MiX
open PySem PySem.W PySem.Calls PyProof.Rows PySem.HandSPX
def iA (f : Str) (dfl : List Expr) (p1 p2 : Pos) : Arguments := { posonlyargs := [], args := [{ arg := "self", annotation := none, pos := p1 }, { arg := f, annotation := none, pos := p2 }], vararg := none, kwonlyargs := [], kw_defaults := [], kwarg := none, defaults := dfl }
def iB (f b msg : Str) (j : Nat) (q1 q2 q3 q4 q5 q6 r1 r2 r3 r4 : Pos) : List Stmt :=
  [.Expr (.Call (.Attribute (.Name b q1) "__init__" q2) [.Name "self" q3, .Constant (.str msg) j q4] [] q5) q6, .Assign [.Attribute (.Name "self" r1) f r2] (.Name f r3) r4]
def iS (f b : Str) : Scope := { kind := .function, names := [(PySem.Str.ofString "self", .local), (f, .local), (b, .globalImplicit)], isGenerator := false, isCoroutine := false, more := [] }
/-- a built-in base -/
structure XBase (B newId initId : String) (bmB : List Value) : Prop where
  F : ExcBaseFacts B newId initId bmB
  hh : handedIn (.builtin initId) = true
  S : StoreFacts B bmB "object.__setattr__" "object"
/-- the base as the text names it: an own class without __init__, or the built-in one -/
def BaseOk (K : Frag) (mg : Str → Option Value) (b : Str) (initId : String) : Prop :=
  (∃ CB, mg b = some (.ref CB) ∧ specialIn K (.ref CB) "__getattribute__" = some (some (.builtin "type.__getattribute__")) ∧ readsIn K CB (.type "type") = true ∧ findCls K (.ref CB) (.type "type") "__init__" = some (.val (.builtin initId))) ∨
  (∃ T, mg b = none ∧ bootBuiltins b = some (.type T) ∧ b ≠ "__name__" ∧ typeOf (.type T) = pure (.type "type") ∧ Manifest.isStub T = false ∧ findCls K (.type T) (.type "type") "__init__" = some (.val (.builtin initId)))
structure XcTxt (K : Frag) (mg : Str → Option Value) (c f b : Str) (C fI : Addr) (newId initId : String) (bmB : List Value) : Prop where
  gC : mg c = some (.ref C)
  ei : excInitIn K C bmB newId = true
  hd : hasDictIn K C = true
  sa : findIn K (.ref C) "__setattr__" = some (some (.builtin "object.__setattr__"))
  ga : findIn K (.ref C) "__getattribute__" = some (some (.builtin "BaseException.__getattribute__"))
  gg : findIn K (.ref C) "__getattr__" = some none
  noN : findIn K (.ref C) f = some none
  iC : findIn K (.ref C) "__init__" = some (some (.ref fI))
  tC : typeIn K (.ref fI) = some (.type "function")
  kC : keepIn K (.ref C) = true
  exC : subIn K (.ref C) (.type "BaseException") = some true
  tyC : typeIn K (.ref C) = some (.type "type")
  fd_ : (f == ("__debug__" : Str)) = false
  fs_ : f ≠ "self"
  bd_ : (b == ("__debug__" : Str)) = false
  bs_ : b ≠ "self"
  bf_ : b ≠ f
  base : BaseOk K mg b initId
  fn : ∃ (qual msg : Str) (dfl : List Expr) (j : Nat) (p1 p2 q1 q2 q3 q4 q5 q6 r1 r2 r3 r4 : Pos) (dvs : List L2.V) (fd : FuncData), L2.FunD K "__init__" qual (iA f dfl p1 p2) (iB f b msg j q1 q2 q3 q4 q5 q6 r1 r2 r3 r4) (iS f b) dvs [] fI fd ∧
    (∀ env : Env, ∃ pl, eval (.Call (.Attribute (.Name b q1) "__init__" q2) [.Name "self" q3, .Constant (.str msg) j q4] [] q5) env = (do
      let ov ← eval (.Name b q1) env
      standAt q2.atName
      let (f, first) ← holding [ov] (getMethod ov "__init__" pl)
      callWith q5 f first (backTo q5 (starEach [.Name "self" q3, .Constant (.str msg) j q4] env)) (backToKw q5 (keywordEach [] env)))) ∧
    ∀ us : List Value, us.length = 2 → ∀ s : Shared, K.In s.heap → BindsTo s fd ⟨us, []⟩ ((["self", f] : List Str).zip us)
theorem exc_cls {K : Frag} {C : Addr} {bmB : List Value} {newId : String} (q : excInitIn K C bmB newId = true) : ∃ nm N qn bs bm hdct sn sub ab col dd k0 k1 k2 k3 k5,
    K.lookup C = some (excClassObj nm qn C N bs bm hdct sn sub ab col dd k0 k1 k2 k3 k5 newId) ∧ excTail bmB bm = true := by
  unfold excInitIn at q
  split at q
  · rename_i dd cd sl ho
    split at q
    · rename_i C' bm k0 k1 k2 k3 n k5 hm hs
      simp only [Bool.and_eq_true, beq_iff_eq, Bool.not_eq_true'] at q
      obtain ⟨⟨⟨rfl, rfl⟩, hdel⟩, ht⟩ := q
      obtain ⟨nm, bs, mro, ns, qn, hd, sn, sub, ab, col, del⟩ := cd
      dsimp only at hm hdel
      subst hm hdel
      have hsl : sl = #[k0, k1, k2, k3, some (.builtin n), k5] := by
        obtain ⟨l⟩ := sl
        simp only at hs
        rw [hs]
      subst hsl
      exact ⟨nm, ns, qn, bs, bm, hd, sn, sub, ab, col, dd, k0, k1, k2, k3, k5, ho, ht⟩
    · cases q
  · cases q
section
variable {prog : Program} {w : World} {A : Around} {E : Value → Shared → Prop} {R : Result → Shared → Prop} {hp : Heap} {g : Array GenState} {d : Drawn} {t : Nat} {os : OsState}
/-- self.f = v on such an exception without a dict as yet -/
theorem osa_new {K : W.Frag} {B : String} {bmB : List Value} {name : Str} {tk : Tok} {v : Value} {x C : Addr} {fv : Array Value} {cd : ClassData} (SB : StoreFacts B bmB "object.__setattr__" "object")
    (X : K.In hp) (hx : hp.get? x = some { cls := .ref C, data := .fields fv }) (hcd : W.clsIn K C = some cd) (hm : ∃ bm, cd.mro = .ref C :: bm ∧ excTail bmB bm = true) (hh : cd.hasDict = true) (ha : W.findIn K (.ref C) name = some none)
    (hq : ∀ h' tk' dx, (∀ b o, b ≠ x → hp.get? b = some o → h'.get? b = some o) → hp.objs.size ≤ dx → dx ≠ x → h'.get? x = some { cls := .ref C, dict := some dx, data := .fields fv } →
      h'.Ns1 dx (fun y => if y = name then some v else none) → R (.ok (.ret .none)) ⟨h', g, d, tk', os⟩) :
    codeAny (model prog w) A (.call (.builtin "object.__setattr__") ⟨[.ref x, .str name tk, v], []⟩) R ⟨hp, g, d, t, os⟩ := by
  obtain ⟨bm, hmro, htl⟩ := hm
  have I : W.InstAt hp x { cls := .ref C, data := .fields fv } C none := ⟨hx, rfl, rfl, trivial⟩
  have SF := F.store_object
  have ne : cd.mro.isEmpty = false := by rw [hmro]; rfl
  have hob : cd.mro.contains (.type "object") = true := by rw [hmro, List.contains_cons, excTail_contains "object" _ htl, SB.hasOwner, Bool.or_true]
  have hxs : x ≠ hp.objs.size := Nat.ne_of_lt (Heap.lt_size hx)
  have sub : W.Looks (model prog w) hp (isInstance (.ref x) (.type "object")) true := I.type.andThen (W.looks_mroIn X (by unfold W.mroIn; rw [hcd, Option.bind_some, if_neg (by rw [ne]; decide), hob]))
  refine codeAny_call_builtin SF.slot.plain SF.entry (@W.check_slot (model prog w) _ _ ⟨hp, g, d, t, os⟩ "object.__setattr__" "object" "__setattr__" (.ref x) [.str name tk, v] [] _ SF.kind SF.split sub (SF.args (.ref x) (.str name tk) v) ?_)
  have hmr : W.Looks (model prog w) hp (mroOf (.ref C)) cd.mro := (W.looks_clsIn X hcd).andThen .now
  have L3 : W.Looks (model prog w) hp (Builtin.ObjectAttr.storeTaker? none) none := .now
  have hcls : W.Looks (model prog w) hp (classData C) cd := W.looks_clsIn X hcd
  have hpass : refuseLoop (.ref x) "__setattr__" cd.mro = pure () := by rw [hmro, refuseLoop_ref]; exact excTail_pass _ (SB.passes _) _ htl
  rw [W.osa_eq, refuse_eq]
  refine wpAny_bind (wpAny_bind (I.type.at (wpAny_bind (hmr.at ?_))))
  rw [hpass]
  refine wpAny_pure (wpAny_bind (I.type.at (wpAny_bind ((W.looks_findIn X ha).at (wpAny_bind (L3.at ?_))))))
  show wpAny _ _ (Builtin.ObjectAttr.storeInOwnDict (.ref x) (.ref C) (.str name tk) name v false) _ _ _
  obtain ⟨nm, bs, mro, ns, qn, hd, sn, sb, ab, col, del⟩ := cd
  dsimp only at hh
  subst hh
  unfold Builtin.ObjectAttr.storeInOwnDict Builtin.ObjectAttr.ownDictForStores
  repeat (first | with_reducible refine store_in_new ?_ ?_ | with_reducible refine wpAny_loadPart_at hx ?_ | with_reducible refine hcls.at ?_ | wp_step)
  · exact ⟨_, #[], _, (Heap.get?_update_ne _ _ _ _ hxs.symm).trans (Heap.get?_push_at rfl rfl), rfl, fun e he => absurd he (by simp), fun _ => rfl⟩
  · intro h' tk' hn' hs
    have hx₁ : (hp.push { cls := .type "dict", data := .dict #[] }).get? x = some { cls := .ref C, data := .fields fv } := Heap.get?_push_of_some _ hx
    refine hq h' tk' hp.objs.size (fun b o hb ho => ?_) (Nat.le_refl _) hxs.symm ?_ hn'
    · exact (hs.2 b (Nat.ne_of_lt (Heap.lt_size ho))).trans ((Heap.get?_update_ne _ _ _ _ hb).trans (Heap.get?_push_of_some _ ho))
    · exact (hs.2 x hxs).trans (Heap.get?_update_self _ hx₁ rfl)

/-- what __init__ leaves of a fresh exception at x -/
structure XInit (h h' : Heap) (x C dx : Addr) (f : Str) (v : Value) : Prop where
  keep : ∀ b o, b ≠ x → h.get? b = some o → h'.get? b = some o
  obj : ∃ t1 : Addr, h'.get? x = some { cls := .ref C, dict := some dx, data := .fields #[.ref t1, .none, .none, .none, .bool false, .none] }
  dbig : h.objs.size ≤ dx
  dne : dx ≠ x
  ns : h'.Ns1 dx (fun y => if y = f then some v else none)
structure XMade (h h' : Heap) (e C d : Addr) (f : Str) (v : Value) : Prop where
  keep : ∀ b o, h.get? b = some o → h'.get? b = some o
  new : h.objs.size ≤ e
  obj : ∃ oe vs, h'.get? e = some oe ∧ oe.cls = .ref C ∧ oe.dict = some d ∧ oe.data = .fields vs ∧ vs[1]? = some .none
  dbig : h.objs.size ≤ d
  dne : d ≠ e
  ns : h'.Ns1 d (fun y => if y = f then some v else none)
theorem kept_but {K : Frag} {h h' : Heap} {x : Addr} (X : K.In h) (hx : K.lookup x = none) (k : ∀ b o, b ≠ x → h.get? b = some o → h'.get? b = some o) : K.In h' := fun a o e =>
  k a o (fun z => by rw [z, hx] at e; cases e) (X a o e)
theorem ldL {M : Model} {s : Shared} {qual : Str} {scope : Scope} {L a : Addr} {cd : Value} {m : Str → Option Value} {x : Str} {pos : Pos} {v : Value} {Q : Value → Shared → Prop} {A : Around} {E : Value → Shared → Prop} (hn : s.heap.Ns L m) (hv : m x = some v) (h : Q v s)
    (hk : scope.kind = .function) (hl : scope.names.lookup x = some .local) (hd : (x == ("__debug__" : Str)) = false) :
    wpAny M A (eval (.Name x pos) (envOfC qual scope L a cd)) Q E s := wpAny_Name (wpAny_loadName_local hk hl hn hv h) hd
section
variable {prog : Program} {w : World} {A : Around} {E : Value → Shared → Prop} {R : Result → Shared → Prop} {s : Shared} {K : Frag} {mg : Str → Option Value} {C fI : Addr} {c f b : Str} {B newId initId : String} {bmB : List Value}
theorem look_self {f b : Str} : (iS f b).names.lookup ("self" : Str) = some .local := by
  show List.lookup ("self" : Str) ((("self" : Str), NameKind.local) :: _) = _
  rw [List.lookup_cons, beq_self_eq_true]
theorem look_f {f b : Str} (h : f ≠ "self") : (iS f b).names.lookup f = some .local := by
  show List.lookup f ((("self" : Str), NameKind.local) :: (f, .local) :: _) = _
  have e : (f == ("self" : Str)) = false := by simpa using h
  rw [List.lookup_cons, e, List.lookup_cons, beq_self_eq_true]
theorem look_b {f b : Str} (h : b ≠ "self") (h2 : b ≠ f) : (iS f b).names.lookup b = some .globalImplicit := by
  show List.lookup b ((("self" : Str), NameKind.local) :: (f, .local) :: [(b, .globalImplicit)]) = _
  have e : (b == ("self" : Str)) = false := by simpa using h
  have e2 : (b == f) = false := by simpa using h2
  rw [List.lookup_cons, e, List.lookup_cons, e2, List.lookup_cons, beq_self_eq_true]
theorem x_init (XB : XBase B newId initId bmB) (T : XcTxt K mg c f b C fI newId initId bmB) {x t0 : Addr} {v : Value} (X : K.In s.heap) (hlim : s.heap.NoLimit) (G : s.heap.Ns mainGlobals mg) (BL : ∃ mb, s.heap.Ns builtinsNs mb ∧ ∀ x : Str, x ≠ "__name__" → mb x = bootBuiltins x)
    (hx : s.heap.get? x = some (excO C t0)) (hnx : K.lookup x = none) (hroom : A.depth < recursionLimit) (hgx : x ≠ mainGlobals)
    (hq : ∀ h' tk dx, XInit s.heap h' x C dx f v → R (.ok (.ret .none)) { s with heap := h', toks := tk }) :
    codeAny (model prog w) A (.call (.ref fI) ⟨[.ref x, v], []⟩) R s := by
  obtain ⟨qual, msg, dfl, j, p1, p2, q1, q2, q3, q4, q5, q6, r1, r2, r3, r4, dvs, fd, FD, hcall, hbind⟩ := T.fn
  obtain ⟨oc, od, dV, kV, doc, pm, an, cdv, ct, osl, rfl, ho, hcd, _, _⟩ := FD.ex
  obtain ⟨nm, N, q, bs, bm, hdct, sn, sub, ab, col, dd, k0, k1, k2, k3, k5, hC, hbm⟩ := exc_cls T.ei
  have hcl : clsIn K C = some { name := nm, bases := bs, mro := .ref C :: bm, ns := N, qualname := q, hasDict := hdct, slotNames := sn, subclasses := sub, abstract := ab, collection := col, hasDel := false } := by unfold clsIn; rw [hC] <;> rfl
  have hhd : hdct = true := by
    have := T.hd
    unfold hasDictIn at this
    rw [hcl] at this
    exact this
  subst hhd
  have e1 : (f == ("self" : Str)) = false := by simpa using T.fs_
  refine Att.call_fn (binds := [("self", .ref x), (f, v)]) X hlim ho hcd hroom (hbind [.ref x, v] rfl s X) ?_ (fun s₁ IC => ?_) rfl rfl rfl
  · show (((iS f b).names.lookup ("self" : Str) == some .local || _) && (((iS f b).names.lookup f == some .local || _) && true)) = true
    rw [look_self, look_f T.fs_]
    rfl
  obtain ⟨h₁, tk₁, rfl⟩ := IC.toInCall.same
  have k : ∀ b o, s.heap.get? b = some o → h₁.get? b = some o := IC.toInCall.keep
  have hn := IC.toInCall.ns
  have hxL : s.heap.objs.size ≠ x := Nat.ne_of_gt (Heap.lt_size hx)
  have X₁ : K.In h₁ := X.keeps k
  have hx₁ := k _ _ hx
  have G₁ : h₁.Ns mainGlobals mg := G.keeps k
  obtain ⟨mb, B1, B2⟩ := BL
  have B₁ : h₁.Ns builtinsNs mb := B1.keeps k
  have mS : (bindL (envOfC qual (iS f b) s.heap.objs.size fI cdv).kindOf [("self", .ref x), (f, v)] fun _ => none) "self" = some (.ref x) := by
    have := L2.bindL_get (kindOf := (envOfC qual (iS f b) s.heap.objs.size fI cdv).kindOf) (P := [("self" : Str), f]) (vs := [.ref x, v]) (i := 0) (x := ("self" : Str)) (v := .ref x) (m := fun _ => none) (by simp [Ne.symm T.fs_]) rfl rfl look_self
    exact this
  have mF : (bindL (envOfC qual (iS f b) s.heap.objs.size fI cdv).kindOf [("self", .ref x), (f, v)] fun _ => none) f = some v := by
    have := L2.bindL_get (kindOf := (envOfC qual (iS f b) s.heap.objs.size fI cdv).kindOf) (P := [("self" : Str), f]) (vs := [.ref x, v]) (i := 1) (x := f) (v := v) (m := fun _ => none) (by simp [Ne.symm T.fs_]) rfl rfl (look_f T.fs_)
    exact this
  -- B.__init__(self, msg)
  show wpAny _ _ (execs _ _) _ _ _
  refine wpAny_execs_cons (wpAny_Expr_any ?_)
  obtain ⟨pl, hcl2⟩ := hcall (envOfC qual (iS f b) s.heap.objs.size fI cdv)
  refine PySem.W.methodCall_KW (pl := pl) ?_ hcl2
  have ldB : ∀ {Q : Value → Shared → Prop} {E' : Value → Shared → Prop}, (∀ ov, (∀ (s2 : Shared) (Q2 : Value × List Value → Shared → Prop) (E2 : Value → Shared → Prop), s2.heap = h₁ → Q2 (.builtin initId, []) { s2 with toks := s2.toks + 1 } → wpAny (model prog w) (A.deeper (envOfC qual (iS f b) s.heap.objs.size fI cdv)) (getMethod ov "__init__" pl) Q2 E2 s2) → Q ov { s with heap := h₁, toks := tk₁ }) →
      wpAny (model prog w) (A.deeper (envOfC qual (iS f b) s.heap.objs.size fI cdv)) (eval (.Name b q1) (envOfC qual (iS f b) s.heap.objs.size fI cdv)) Q E' { s with heap := h₁, toks := tk₁ } := fun {Q E'} hQ => by
    rcases T.base with ⟨CB, m1, m2, m3, m4⟩ | ⟨T', m1, m2, m3, m4, m5, m6⟩
    · refine Calls.Name_function_global rfl (look_b T.bs_ T.bf_) (Calls.loadGlobal_global G₁ m1 (hQ _ fun s2 Q2 E2 eh hq2 => ?_)) T.bd_
      have X2 : K.In s2.heap := by rw [eh]; exact X₁
      exact method_cls X2 m2 (cls_value X2 m3 m4 XB.hh hq2)
    · refine Calls.Name_function_global rfl (look_b T.bs_ T.bf_) (Calls.loadGlobal_builtin G₁ m1 B₁ ((B2 b m3).trans m2) (hQ _ fun s2 Q2 E2 eh hq2 => ?_)) T.bd_
      have X2 : K.In s2.heap := by rw [eh]; exact X₁
      have LO : Looks (model prog w) s2.heap (opaqueClassAbove (.type T')) none := Looks.of_pure (by unfold opaqueClassAbove; dsimp only; rw [m5]; rfl)
      have L0 : Looks (model prog w) s2.heap (typeOf (.type T')) (.type "type") := Looks.of_pure m4
      have hg : findIn K (.type "type") "__getattribute__" = some (some (.builtin "type.__getattribute__")) := type_tga
      unfold getMethod specialOf
      refine wpAny_bind (wpAny_bind (L0.here ((looks_findIn X2 hg).here ?_)))
      dsimp only
      rw [if_pos canon_tga]
      refine wpAny_bind (wpAny_mono (Q := fun v => Q2 (v, [])) (E := E2) ?_ (fun _ _ z => wpAny_pure z) fun _ _ z => z)
      exact cls_open X2 LO L0 hg (looks_hook X2 (r := none) (by rfl)) (by show subIn K _ _ = _; rfl) m6
        (wpAny_pure (by show wpAny _ _ (handedOut _) _ _ _; rw [handedOut_of XB.hh]; exact wpAny_pure hq2))
  refine ldB fun ov hov => hov _ _ _ rfl ?_
  show wpAny _ _ (callWith q5 (Value.builtin initId) [] (backTo q5 (starEach [.Name "self" q3, .Constant (.str msg) j q4] _)) []) _ _ _
  refine PyProof.Rows.callWith_method1 (Calls.spliced_cons (ldL hn mS (Calls.spliced_cons (Calls.Constant_str (pos := q4) (k := j) (Calls.spliced_nil ?_))) rfl look_self (by decide))) (by rfl) (by rfl)
  show wpAny _ _ (call (.builtin initId) [.ref x, .str msg _]) _ _ _
  refine wpAny_call (init_base XB.F (fun Y => excTail_contains Y bm hbm) (X₁ _ _ hC) hx₁ (by rw [sizeLine_eq]; exact (by decide : 1 ≤ 16777216)) fun h₂ t1 k₂ hx₂ => ?_)
  -- self.f = f
  have X₂ : K.In h₂ := kept_but X₁ hnx k₂
  have hn₂ : h₂.Ns s.heap.objs.size _ := hn.at fun o e => k₂ _ o hxL e
  show wpAny _ _ (execs _ _) _ _ _
  refine wpAny_execs_cons (plainObj_wpAny_Assign_Attribute ?_)
  refine ldL hn₂ mF (ldL hn₂ mS ?_ rfl look_self (by decide)) rfl (look_f T.fs_) T.fd_
  refine set_plain X₂ (ox := excO C t1) (od := none) ⟨hx₂, rfl, rfl, trivial⟩ T.sa ?_
  refine osa_new XB.S X₂ hx₂ hcl ⟨bm, rfl, hbm⟩ rfl T.noN (fun h₃ tk₃ dx k₃ dn dne hx₃ hn₃ => ?_)
  show wpAny _ _ (execs _ _) _ _ _
  have z : s.heap.objs.size < h₂.objs.size := hn₂.lt
  exact wpAny_execs_nil (hq h₃ tk₃ dx ⟨fun b o hb e => k₃ b o hb (k₂ b o hb (k b o e)), ⟨_, hx₃⟩, Nat.le_of_lt (Nat.lt_of_lt_of_le z dn), dne, hn₃⟩)
theorem x_made (XB : XBase B newId initId bmB) (T : XcTxt K mg c f b C fI newId initId bmB) {v : Value} (X : K.In s.heap) (hlim : s.heap.NoLimit) (G : s.heap.Ns mainGlobals mg) (BL : ∃ mb, s.heap.Ns builtinsNs mb ∧ ∀ x : Str, x ≠ "__name__" → mb x = bootBuiltins x) (hroom : A.depth + 1 < recursionLimit)
    (hq : ∀ h' tk e d, XMade s.heap h' e C d f v → R (.ok (.ret (.ref e))) { s with heap := h', toks := tk }) :
    codeAny (model prog w) A (.call (.ref C) ⟨[v], []⟩) R s := by
  obtain ⟨nm, N, q, bs, bm, hdct, sn, sub, ab, col, dd, k0, k1, k2, k3, k5, hC, hbm⟩ := exc_cls T.ei
  obtain ⟨hp, g, dr, tk, os⟩ := s
  have k : ∀ b o, hp.get? b = some o → ((hp.push (kdv_tup [v])).push (excO C hp.objs.size)).get? b = some o := fun b o e => Heap.get?_push_of_some _ (Heap.get?_push_of_some _ e)
  have hget : ((hp.push (kdv_tup [v])).push (excO C hp.objs.size)).get? (hp.objs.size + 1) = some (excO C hp.objs.size) := by heap_get
  have hnx : K.lookup (hp.objs.size + 1) = none := by
    cases e : K.lookup (hp.objs.size + 1) with
    | none => rfl
    | some o =>
      have z : hp.get? (hp.objs.size + 1) = some o := X _ _ e
      exact absurd (Nat.lt_of_succ_lt (Heap.lt_size z)) (Nat.lt_irrefl _)
  have gm : hp.objs.size + 1 ≠ mainGlobals := fun z => by
    have := G.lt
    rw [← z] at this
    exact absurd (Nat.lt_of_succ_lt this) (Nat.lt_irrefl _)
  obtain ⟨mb, B1, B2⟩ := BL
  refine call_own XB.F (fun Y => excTail_contains Y bm hbm) (X _ _ hC) (looks_findIn X T.iC) (fun self => bind_fn X self T.tC) (by rw [sizeLine_eq]; exact (by decide : 1 ≤ 16777216)) ?_
  refine x_init (s := ⟨(hp.push (kdv_tup [v])).push (excO C hp.objs.size), g, dr, tk, os⟩) XB T (X.keeps k) (hlim.keeps k) (G.keeps k) ⟨mb, B1.keeps k, B2⟩ hget hnx ?_ gm fun h' tk' dx ⟨k', ⟨t1, hx⟩, dn, dne, hns⟩ => ?_
  · show A.depth + 1 < recursionLimit
    exact hroom
  · have old : ∀ b o, hp.get? b = some o → h'.get? b = some o := fun b o e => k' b o (Nat.ne_of_lt (Nat.lt_succ_of_lt (Heap.lt_size e))) (k b o e)
    have z : hp.objs.size + 1 + 1 ≤ dx := by
      first
        | (simpa only [Heap.size_push] using dn)
        | exact dn
        | (have q := dn; rw [Heap.size_push, Heap.size_push] at q; exact q)
    exact ⟨rfl, hq h' tk' (hp.objs.size + 1) dx ⟨old, Nat.le_succ _, ⟨_, _, hx, rfl, rfl, rfl, rfl⟩, Nat.le_trans (Nat.le_trans (Nat.le_succ _) (Nat.le_succ _)) z, dne, hns⟩⟩
end
end
end MiX

set_option Elab.async false
set_option linter.all false
set_option maxRecDepth 100000
set_option maxHeartbeats 1000000
namespace Mi
open PySem PySem.Spec PyProof.Rows L2

/-! ### raise C(e) -/
theorem relO_x {f : Str} {v : V} {v' : Value} (r : RelV v v') (g : Str) : L2.RelO (List.lookup g [(f, v)]) (if g = f then some v' else none) := by
  by_cases hw : g = f
  · subst hw
    rw [if_pos rfl]
    have q : List.lookup g [(g, v)] = some v := by simp [List.lookup]
    rw [q]
    exact r
  · rw [if_neg hw]
    have qw : (g == f) = false := by simpa using hw
    have q2 : List.lookup g [(f, v)] = none := by simp [List.lookup, qw]
    rw [q2]
    trivial
def tMkX (C : Addr) (f : Str) (ta : TA) : St → Hp → XK → Prop := fun σ H Q => ta σ H fun vs H1 => ∃ v, vs = [v] ∧ ∀ d, H1 d = none → Q (.ref C) (some d) (upd H1 d (.xd [(f, v)]))
section
variable {X : Cx} {C fI : Addr} {c f b : Str} {B newId initId : String} {bmB : List Value}
theorem pmk_x {a : Expr} {ta : TA} {p pos : Pos} {k : Nat} (XB : MiX.XBase B newId initId bmB) (T : MiX.XcTxt X.K X.mg c f b C fI newId initId bmB) (hr : RoomG k X.A) (ha : PA X [a] ta) (hg : Gl X c) (hcd : (c == ("__debug__" : Str)) = false)
    (he : starEach (a :: []) X.env = (false, eval a X.env) :: starEach [] X.env := by rfl) (hpl : (backTo pos (starEach [] X.env)).any (·.1) = false := by rfl) :
    PMk X (.Call (.Name c p) [a] [] pos) (tMkX C f ta) := by
  intro pins s σ H Q I h
  refine wpAny_Call_Name_kw (ld_glob I hg T.gC ?_ hcd)
  refine PySem.W.callWith_K (h₀ := X.base) I.ok.mod.kin T.kC (thn (ha.run pos pins s σ H _ I h) fun us s1 hh => ?_) he hpl
  obtain ⟨vs, H1, I1, r1, v, ev, q1⟩ := hh
  subst ev
  refine ⟨I1.kIn, ?_⟩
  cases r1 with
  | cons rv rn =>
    rename_i v' us'
    cases rn
    show wpAny _ _ (call (.ref C) [v']) _ _ _
    have hlim := I1.nolimit
    have hG : s1.heap.Ns mainGlobals X.mg := I1.ok.mod.glob.keeps I1.bk
    have hB : ∃ mb, s1.heap.Ns builtinsNs mb ∧ ∀ x : Str, x ≠ "__name__" → mb x = bootBuiltins x := by
      obtain ⟨mb, b1, b2⟩ := I1.ok.mod.blt
      exact ⟨mb, b1.keeps I1.bk, b2⟩
    obtain ⟨hp, g, dr, tk, os⟩ := s1
    refine wpAny_call (MiX.x_made XB T I1.kIn hlim hG hB (by have := hr.rm.dp; omega) fun h' tk' e d M => ?_)
    show MkP X pins σ Q (.ref e) ⟨h', g, dr, tk', os⟩
    obtain ⟨oe, fv, hoe, hc, hd, hdat, h1⟩ := M.obj
    have hns := M.ns
    obtain ⟨G', g1, g2⟩ := restrict h' fun b => decide (b ≠ e)
    have gk : ∀ b, b ≠ e → G'.get? b = h'.get? b := fun b hb => g1 b (decide_eq_true hb)
    have ge : G'.get? e = none := g2 e (by simp)
    have old : ∀ b o, hp.get? b = some o → G'.get? b = some o := fun b o q => (gk b (Nat.ne_of_lt (Nat.lt_of_lt_of_le (Heap.lt_size q) M.new))).trans (M.keep b o q)
    have ob : ObjOk X.prog X.w (upd H1 d (.xd [(f, v)])) G' d (.xd [(f, v)]) :=
      ⟨_, hns.at (fun o q => (gk d M.dne).trans q), fun g => relO_x rv g⟩
    have J : Inv X pins σ (upd H1 d (.xd [(f, v)])) ⟨G', g, dr, tk', os⟩ := I1.laid (t' := tk') old M.dbig ob
    refine ⟨e, oe, fv, ⟨G', g, dr, tk', os⟩, _, .ref C, some d, rfl, J, fun b o q => ?_, ge, hoe, ⟨hc, hd⟩, hdat, h1, ?_, rfl, I1.bare, raises_own T.exC T.tyC, q1 d (I1.hok.fresh M.dbig)⟩
    · by_cases hb : b = e
      · have q' : G'.get? b = some o := q
        rw [hb, ge] at q'; cases q'
      · exact (gk b hb).symm.trans q
    · rw [upd_ne (Ne.symm M.dne)]
      exact I1.hok.fresh M.new
@[simp] def sRaise (c f : Str) (fe : Fe) : Fs := sOf fe fun d env h => .ex ⟨c, f, d⟩ env h
theorem ds_raise {R : Rx} {W : WX} {a : Expr} {fe : Fe} {p pos pos2 : Pos} {k : Nat} (hc : X.calm = true) (hR : R.mg = X.mg) (XB : MiX.XBase B newId initId bmB) (T : MiX.XcTxt X.K X.mg c f b C fI newId initId bmB) (hr : RoomG k X.A) (tk : Takes X W) (ha : DE X R W a fe) (hg : Gl X c) (hcd : (c == ("__debug__" : Str)) = false := by decide)
    (hs : starEach [a] X.env = (false, eval a X.env) :: starEach [] X.env := by rfl) (hpl : (backTo pos (starEach [] X.env)).any (·.1) = false := by rfl) :
    DS X R W (.Raise (some (.Call (.Name c p) [a] [] pos)) none pos2) (sRaise c f fe) := by
  refine ⟨fun pins s σ H D I h => (ps_raise hc tk (pmk_x (pos := pos) (p := p) XB T hr (pa_cons ha pa_nil hs) hg hcd hs hpl)).run pins s σ H D I ?_⟩
  obtain ⟨α, env, hp, re, rh, fi⟩ := h
  refine ⟨α, env, hp, re, rh, (finS_of re fi).imp fun v H1 hq => ?_⟩
  obtain ⟨d, α1, h1, _, x1, rh1, r1, f1⟩ := hq
  refine ⟨v, rfl, fun dd hdd => ?_⟩
  have xs : Ext α1 H1 α1 (upd H1 dd (.xd [(f, v)])) := Ext.side hdd
  exact f1 α1 _ σ (.ref C) dd xs (rh1.side hdd) ((re.ext x1).ext xs) ⟨C, v, by rw [hR]; exact T.gC, rfl, upd_same, RelD.ext xs _ _ r1⟩
end
/-! ### what number an exception gets -/
mutual
def xid : D → Nat
  | .exc n _ _ d => max (n + 1) (xid d)
  | .tup xs => xids xs
  | _ => 0
def xids : List D → Nat
  | [] => 0
  | d :: r => max (xid d) (xids r)
end
def xidK : List (Key × D) → Nat
  | [] => 0
  | (_, d) :: r => max (xid d) (xidK r)
def xidO : Ob → Nat
  | .lst xs => xids xs
  | .fro xs => xids xs
  | .dic xs => xidK xs
def xidH : Hd → Nat
  | [] => 0
  | o :: r => max (xidO o) (xidH r)
def xidE : En → Nat
  | [] => 0
  | none :: r => xidE r
  | some d :: r => max (xid d) (xidE r)
def fresh (env : En) (h : Hd) (e : Exn) : Nat := max (xidE env) (max (xidH h) (xid e.v))
def Rx.put (R : Rx) (n : Nat) (x : Addr × Value × Addr) : Rx := { R with xa := fun m => if m = n then some x else R.xa m }
section
variable {R : Rx} {α : List Addr} {H : Hp} {n : Nat} {x : Addr × Value × Addr}
theorem put_ne {m : Nat} (h : m ≠ n) : (R.put n x).xa m = R.xa m := if_neg h
theorem put_eq : (R.put n x).xa n = some x := if_pos rfl
mutual
theorem RelD.up : ∀ {d : D} {v : V}, xid d ≤ n → RelD R α H d v → RelD (R.put n x) α H d v
  | .non, _, _, h => by unfold RelD at h ⊢; exact h
  | .bl _, _, _, h => by unfold RelD at h ⊢; exact h
  | .int _, _, _, h => by unfold RelD at h ⊢; exact h
  | .str _, _, _, h => by unfold RelD at h ⊢; exact h
  | .tup xs, v, l, h => by
    unfold xid at l
    unfold RelD at h ⊢
    obtain ⟨a, vs, h1, h2, h3⟩ := h
    exact ⟨a, vs, h1, h2, RelDs.up l h3⟩
  | .ref n, v, _, h => by unfold RelD at h ⊢; exact h
  | .gl _, _, _, h => by unfold RelD at h ⊢; exact h
  | .ty _, _, _, h => by unfold RelD at h ⊢; exact h
  | .exc m c f d, v, l, h => by
    unfold xid at l
    unfold RelD at h ⊢
    intro a cls dd hx
    rw [put_ne (by omega)] at hx
    obtain ⟨h1, C, v', h2, h3, h4, h5⟩ := h a cls dd hx
    exact ⟨h1, C, v', h2, h3, h4, RelD.up (by omega) h5⟩
theorem RelDs.up : ∀ {ds : List D} {vs : List V}, xids ds ≤ n → RelDs R α H ds vs → RelDs (R.put n x) α H ds vs
  | [], _, _, h => by unfold RelDs at h ⊢; exact h
  | d :: ds, vs, l, h => by
    unfold xids at l
    unfold RelDs at h ⊢
    obtain ⟨v, r, h1, h2, h3⟩ := h
    exact ⟨v, r, h1, RelD.up (by omega) h2, RelDs.up (by omega) h3⟩
end
mutual
theorem RelD.down (hn : R.xa n = none) : ∀ {d : D} {v : V}, RelD (R.put n x) α H d v → RelD R α H d v
  | .non, _, h => by unfold RelD at h ⊢; exact h
  | .bl _, _, h => by unfold RelD at h ⊢; exact h
  | .int _, _, h => by unfold RelD at h ⊢; exact h
  | .str _, _, h => by unfold RelD at h ⊢; exact h
  | .tup xs, v, h => by
    unfold RelD at h ⊢
    obtain ⟨a, vs, h1, h2, h3⟩ := h
    exact ⟨a, vs, h1, h2, RelDs.down hn h3⟩
  | .ref n, v, h => by unfold RelD at h ⊢; exact h
  | .gl _, _, h => by unfold RelD at h ⊢; exact h
  | .ty _, _, h => by unfold RelD at h ⊢; exact h
  | .exc m c f d, v, h => by
    unfold RelD at h ⊢
    intro a cls dd hx
    by_cases hm : m = n
    · rw [hm, hn] at hx; cases hx
    · obtain ⟨h1, C, v', h2, h3, h4, h5⟩ := h a cls dd (by rw [put_ne hm]; exact hx)
      exact ⟨h1, C, v', h2, h3, h4, RelD.down hn h5⟩
theorem RelDs.down (hn : R.xa n = none) : ∀ {ds : List D} {vs : List V}, RelDs (R.put n x) α H ds vs → RelDs R α H ds vs
  | [], _, h => by unfold RelDs at h ⊢; exact h
  | d :: ds, vs, h => by
    unfold RelDs at h ⊢
    obtain ⟨v, r, h1, h2, h3⟩ := h
    exact ⟨v, r, h1, RelD.down hn h2, RelDs.down hn h3⟩
end
theorem RelKs.up : ∀ {ds : List (Key × D)} {vs : List (Key × V)}, xidK ds ≤ n → RelKs R α H ds vs → RelKs (R.put n x) α H ds vs
  | [], _, _, h => by unfold RelKs at h ⊢; exact h
  | (k, d) :: ds, vs, l, h => by
    unfold xidK at l
    unfold RelKs at h ⊢
    obtain ⟨v, r, h1, h2, h3⟩ := h
    exact ⟨v, r, h1, RelD.up (by omega) h2, RelKs.up (by omega) h3⟩
theorem RelKs.down (hn : R.xa n = none) : ∀ {ds : List (Key × D)} {vs : List (Key × V)}, RelKs (R.put n x) α H ds vs → RelKs R α H ds vs
  | [], _, h => by unfold RelKs at h ⊢; exact h
  | (k, d) :: ds, vs, h => by
    unfold RelKs at h ⊢
    obtain ⟨v, r, h1, h2, h3⟩ := h
    exact ⟨v, r, h1, RelD.down hn h2, RelKs.down hn h3⟩
theorem RelO.up {o : Ob} {a : Addr} (l : xidO o ≤ n) (h : RelO R α H o a) : RelO (R.put n x) α H o a := by
  cases o with
  | lst xs => obtain ⟨vs, q, t⟩ := h; exact ⟨vs, q, RelDs.up l t⟩
  | fro xs => obtain ⟨vs, ob, q, t⟩ := h; exact ⟨vs, ob, q, RelDs.up l t⟩
  | dic xs => obtain ⟨vs, q, t⟩ := h; exact ⟨vs, q, RelKs.up l t⟩
theorem RelO.down (hn : R.xa n = none) {o : Ob} {a : Addr} (h : RelO (R.put n x) α H o a) : RelO R α H o a := by
  cases o with
  | lst xs => obtain ⟨vs, q, t⟩ := h; exact ⟨vs, q, RelDs.down hn t⟩
  | fro xs => obtain ⟨vs, ob, q, t⟩ := h; exact ⟨vs, ob, q, RelDs.down hn t⟩
  | dic xs => obtain ⟨vs, q, t⟩ := h; exact ⟨vs, q, RelKs.down hn t⟩
theorem xidH_get : ∀ {h : Hd} {i : Nat} {o : Ob}, h[i]? = some o → xidO o ≤ xidH h
  | [], _, _, e => by simp at e
  | o :: r, 0, _, e => by simp at e; subst e; unfold xidH; omega
  | o :: r, i + 1, _, e => by
    have := xidH_get (h := r) (i := i) (by simpa using e)
    unfold xidH; omega
theorem xidE_get : ∀ {h : En} {i : Nat} {o : D}, h[i]? = some (some o) → xid o ≤ xidE h
  | [], _, _, e => by simp at e
  | some o :: r, 0, _, e => by simp at e; subst e; unfold xidE; omega
  | none :: r, 0, _, e => by simp at e
  | some o :: r, i + 1, _, e => by
    have := xidE_get (h := r) (i := i) (by simpa using e)
    unfold xidE; omega
  | none :: r, i + 1, _, e => by
    have := xidE_get (h := r) (i := i) (by simpa using e)
    unfold xidE; exact this
theorem RH.up {h : Hd} (l : xidH h ≤ n) (r : RH R α h H) : RH (R.put n x) α h H := ⟨r.len, r.nd, fun i o e => by
  obtain ⟨a, h1, h2⟩ := r.obj i o e
  exact ⟨a, h1, h2.up (Nat.le_trans (xidH_get e) l)⟩⟩
theorem RH.down {h : Hd} (hn : R.xa n = none) (r : RH (R.put n x) α h H) : RH R α h H := ⟨r.len, r.nd, fun i o e => by
  obtain ⟨a, h1, h2⟩ := r.obj i o e
  exact ⟨a, h1, h2.down hn⟩⟩
theorem RelEnv.up {env : En} {σ : St} (l : xidE env ≤ n) (r : RelEnv R α H env σ) : RelEnv (R.put n x) α H env σ := ⟨r.1, fun i d e => by
  obtain ⟨v, h1, h2⟩ := r.2 i d e
  exact ⟨v, h1, h2.up (Nat.le_trans (xidE_get e) l)⟩⟩
theorem RelEnv.down {env : En} {σ : St} (hn : R.xa n = none) (r : RelEnv (R.put n x) α H env σ) : RelEnv R α H env σ := ⟨r.1, fun i d e => by
  obtain ⟨v, h1, h2⟩ := r.2 i d e
  exact ⟨v, h1, h2.down hn⟩⟩
end
/-! ### try: .. except C as n: .. -/
@[simp] def sAft (i : Nat) : SRes → SRes
  | .nx env h => .nx (env.set i none) h
  | .bk env h => .bk (env.set i none) h
  | .ct env h => .ct (env.set i none) h
  | .rt d h => .rt d h
  | _ => .no
@[simp] def sTryAs (i : Nat) (mt : Str → Option Bool) (body : Fs) (suite : Nat → Fs) : Fs := fun env h => match body env h with
  | .ex e env1 h1 => (match mt e.c with
    | some true => sAft i (suite (fresh env1 h1 e) (env1.set i (some (.exc (fresh env1 h1 e) e.c e.f e.v))) h1)
    | some false => .ex e env1 h1
    | none => .no)
  | r => r
section
variable {X : Cx} {R : Rx} {W : WX} {x nm : Str} {c : Value} {i : Nat} {body suite : List Stmt} {b₀ : Stmt} {np pos pos' : Pos} {fb : Fs} {fs : Nat → Fs} {mt : Str → Option Bool}
theorem fin_aft {n : Nat} {y : Addr × Value × Addr} {α : List Addr} {H : Hp} {Dn : Ends} {r : SRes} (hn : R.xa n = none) (f : FinS R W α H Dn (sAft i r)) :
    FinS (R.put n y) W0 α H { nx := fun σ' H' => Dn.nx (σ'.set i none) H', rt := Dn.rt, bk := fun σ' H' => Dn.bk (σ'.set i none) H', ct := fun σ' H' => Dn.ct (σ'.set i none) H' } r := by
  cases r with
  | nx env h => exact fun α' H' σ' x rh re => f α' H' _ x (rh.down hn) (re.down hn).clear
  | rt d h => exact fun α' H' v x rh rd => f α' H' _ x (rh.down hn) (rd.down hn)
  | bk env h => exact fun α' H' σ' x rh re => f α' H' _ x (rh.down hn) (re.down hn).clear
  | ct env h => exact fun α' H' σ' x rh re => f α' H' _ x (rh.down hn) (re.down hn).clear
  | ex e env h => exact (show False from f).elim
  | no => exact (show False from f).elim
theorem ds_tryAs (hs : X.stack = X.env :: X.outer) (hf : X.env.frame = some X.env.locals) (hN : X.N.Nodup) (hR : R.mg = X.mg) (hR0 : ∀ n, R.xa n = none) (hc : Names X x c) (tk : Takes X W)
    (hmt : ∀ c' b, mt c' = some b → ∀ C, X.mg c' = some (.ref C) → PySem.W.exmOne X.K (.ref C) c = some b)
    (hb : ∀ (W' : WX) (pn : List (Addr × Obj)) (xe : Value → Shared → Prop), Takes (X.tr pn xe) W' → PassesOwn (model X.prog X.w) X.A X.env xe → DSs (X.tr pn xe) R W' body fb)
    (hsu : ∀ (a : Addr) (oe : Obj) (cls : Value) (dd : Addr) (pn : List (Addr × Obj)) (n : Nat), Zc cls (some dd) oe → (∃ vs, oe.data = .fields vs) → DSs (X.suite a ((a, oe) :: pn)) (R.put n (a, cls, dd)) W0 (b₀ :: suite) (fs n))
    (hi : X.N[i]? = some nm := by rfl) (hln : X.env.kindOf nm = some .local := by rfl) :
    DS X R W (.Try body [.ExceptHandler (some (.Name x np)) (some nm) (b₀ :: suite) pos'] [] [] pos) (sTryAs i mt fb fs) := by
  refine ⟨fun pins s σ H D I h => (ps_try_as (tb := fun W' => tS R W' fb) (ts := fun a cls d D σ H => ∃ dd n, d = some dd ∧ tS (R.put n (a, cls, dd)) W0 (fs n) D σ H) hs hf hN hi hln hc tk hb (fun a oe cls d pn hz hv => ⟨fun pins s σ H D I h => ?_⟩)).run pins s σ H D I ?_⟩
  · obtain ⟨dd, n, rfl, q⟩ := h
    exact (hsu a oe cls dd pn n hz hv).run pins s σ H D I q
  · obtain ⟨α, env, hp, re, rh, fi⟩ := h
    refine ⟨α, env, hp, re, rh, ?_⟩
    unfold sTryAs at fi
    cases er : fb env hp with
    | nx env1 h1 => rw [er] at fi; exact fi
    | rt d h1 => rw [er] at fi; exact fi
    | bk d h1 => rw [er] at fi; exact fi
    | ct d h1 => rw [er] at fi; exact fi
    | no => rw [er] at fi; exact fi
    | ex e env1 h1 =>
      rw [er] at fi
      dsimp only at fi
      intro α1 H1 σ1 cls dd x1 rh1 re1 rx
      obtain ⟨C, v', g1, g2, g3, g4⟩ := rx
      cases em : mt e.c with
      | none => rw [em] at fi; exact (show False from fi).elim
      | some b =>
        rw [em] at fi
        refine ⟨b, by rw [g2]; exact hmt _ _ em C (by rw [← hR]; exact g1), fun hb a ha => ?_, fun hb => ?_⟩
        · subst hb
          refine ⟨dd, fresh env1 h1 e, rfl, α1, _, h1, ?_, rh1.up (by unfold fresh; omega), (fin_aft (hR0 _) fi).mono x1⟩
          refine RelEnv.set (re1.up (by unfold fresh; omega)) ?_
          unfold RelD
          intro a' cls' dd' hx
          rw [put_eq] at hx
          cases hx
          exact ⟨rfl, C, v', g1, g2, g3, g4.up (by unfold fresh; omega)⟩
        · subst hb
          exact fi α1 H1 σ1 cls dd x1 rh1 re1 ⟨C, v', g1, g2, g3, g4⟩
/-! ### the field of the exception in the suite -/
@[simp] def eFld (n : Nat) (f : Str) (cs : List Str) (fe : Fe) : Fe := fun env h => (fe env h).bind fun d h1 => match d with
  | .exc m c g v => if (m == n && (g == f && cs.contains c)) = true then .ok v h1 else .no
  | _ => .no
theorem de_fld {e : Expr} {fe : Fe} {f : Str} {cs : List Str} {n : Nat} {a : Addr} {oe : Obj} {cls : Value} {dd : Addr} {pn : List (Addr × Obj)} (hR : R.mg = X.mg) (hz : Zc cls (some dd) oe) (hv : ∃ vs, oe.data = .fields vs)
    (hT : ∀ c ∈ cs, ∃ b C fI newId initId bmB, MiX.XcTxt X.K X.mg c f b C fI newId initId bmB) (he : DE (X.suite a ((a, oe) :: pn)) (R.put n (a, cls, dd)) W e fe)
    (hb : attributeBase e f X.env (eval e X.env) = eval e X.env := by rfl) :
    DE (X.suite a ((a, oe) :: pn)) (R.put n (a, cls, dd)) W (.Attribute e f pos) (eFld n f cs fe) := by
  refine ⟨fun pins s σ H Q I h => ?_⟩
  obtain ⟨α, env, hp, re, rh, fi⟩ := h
  refine attr_of hb (thn (he.run pins s σ H _ I ⟨α, env, hp, re, rh, Fin.split fi⟩) fun u s1 hh => ?_)
  obtain ⟨v, H1, I1, ru, d, α1, h1, _, x1, rh1, rd, f1⟩ := hh
  cases d with
  | exc m c g dv =>
    dsimp only at f1
    split at f1
    · rename_i hk
      rw [Bool.and_eq_true, Bool.and_eq_true, beq_iff_eq, beq_iff_eq] at hk
      obtain ⟨rfl, rfl, hcs⟩ := hk
      unfold RelD at rd
      obtain ⟨rfl, C, v', g1, g2, g3, g4⟩ := rd a cls dd put_eq
      obtain ⟨b, C', fI, newId, initId, bmB, T⟩ := hT c (by simpa using hcs)
      have g1 : R.mg c = some (.ref C) := g1
      rw [hR, T.gC] at g1
      cases g1
      subst g2
      obtain rfl : u = Value.ref a := ru
      obtain ⟨ha, _⟩ := I1.pin (a, oe) (List.mem_append_left _ List.mem_cons_self)
      obtain ⟨vs, hd⟩ := hv
      have hx : ObjOk X.prog X.w H1 s1.heap dd (.xd [(g, v')]) := I1.hok dd _ g3
      obtain ⟨mA, hns, hr⟩ := hx
      obtain ⟨od, ho, hl⟩ := lookIn_ns hns
      have l : List.lookup g [(g, v')] = some v' := by simp [List.lookup]
      obtain ⟨u, hu, ru⟩ := L2.RelO.some_of (v := v') (o := mA g) (by rw [← l]; exact hr g)
      have J : PySem.W.InstAt s1.heap a oe C (some od) := ⟨ha, hz.1, by unfold PySem.W.notCls; rw [hd] <;> rfl, by rw [hz.2]; exact ho⟩
      exact HandSPX.exc_get I1.kIn J T.ga T.gg T.exC (PySem.W.findObj_own T.hd T.noN rfl (by rw [hl, hu])) (handed_of ru) ⟨v', H1, I1.tok _, ru, f1 α1 H1 v' .refl rh1 g4⟩
    · exact f1.elim
  | _ => exact (show False from f1).elim
end
end Mi

set_option Elab.async false
set_option linter.all false
set_option maxRecDepth 100000
set_option maxHeartbeats 1000000
namespace Mi
open PySem PySem.Spec PyProof.Rows L2

/-! ### data -/
def toP : Nat → Hd → D → Option PyData
  | 0, _, _ => none
  | _ + 1, _, .non => some .none
  | _ + 1, _, .bl b => some (.bool b)
  | _ + 1, _, .int i => some (.int i)
  | _ + 1, _, .str x => some (.str x)
  | n + 1, h, .tup xs => (xs.mapM (toP n h)).map .tuple
  | n + 1, h, .ref k => (match h[k]? with
    | some (.lst xs) => (xs.mapM (toP n h)).map .list
    | some (.fro xs) => (xs.mapM (toP n h)).map .list
    | _ => none)
  | _ + 1, _, _ => none
section
variable {R : Rx} {α : List Addr} {H : Hp} {h : Hd}
theorem toP_all {n : Nat} (ih : ∀ {d : D} {v : V} {p : PyData}, toP n h d = some p → RelD R α H d v → Dp R.K H v p) : ∀ {ds : List D} {vs : List V} {ps : List PyData}, ds.mapM (toP n h) = some ps → RelDs R α H ds vs → DpAll R.K H vs ps
  | [], vs, ps, e, r => by
    rw [r.nil_inv]
    simp at e
    subst e
    exact .nil
  | d :: ds, vs, ps, e, r => by
    obtain ⟨v, r', rfl, h1, h2⟩ := r.cons_inv
    rw [List.mapM_cons] at e
    cases e1 : toP n h d with
    | none => rw [e1] at e; simp at e
    | some p =>
      rw [e1] at e
      cases e2 : ds.mapM (toP n h) with
      | none => rw [e2] at e; simp at e
      | some ps' =>
        rw [e2] at e
        simp at e
        subst e
        exact .cons (ih e1 h1) (toP_all ih e2 h2)
theorem toP_dp (rh : RH R α h H) : ∀ {n : Nat} {d : D} {v : V} {p : PyData}, toP n h d = some p → RelD R α H d v → Dp R.K H v p
  | 0, _, _, _, e, _ => by unfold toP at e; cases e
  | n + 1, .non, v, p, e, r => by unfold toP at e; cases e; rw [r.non_inv]; exact .non
  | n + 1, .bl b, v, p, e, r => by unfold toP at e; cases e; rw [r.bl_inv]; exact .bl b
  | n + 1, .int b, v, p, e, r => by unfold toP at e; cases e; rw [r.int_inv]; exact .int b
  | n + 1, .str b, v, p, e, r => by unfold toP at e; cases e; rw [r.str_inv]; exact .str b
  | n + 1, .tup xs, v, p, e, r => by
    unfold toP at e
    cases e2 : xs.mapM (toP n h) with
    | none => rw [e2] at e; cases e
    | some ps =>
      rw [e2] at e
      cases e
      obtain ⟨a, vs, rfl, h1, h2⟩ := r.tup_inv
      exact .tup h1 (toP_all (fun x y => toP_dp rh x y) e2 h2)
  | n + 1, .ref k, v, p, e, r => by
    unfold toP at e
    obtain ⟨a, ha, rfl⟩ := r.ref_inv
    have go : ∀ xs, (h[k]? = some (.lst xs) ∨ h[k]? = some (.fro xs)) → (xs.mapM (toP n h)).map PyData.list = some p → Dp R.K H (.ref a) p := fun xs hx e => by
      obtain ⟨vs, h1, h2⟩ := lst_of rh ha hx
      cases e2 : xs.mapM (toP n h) with
      | none => rw [e2] at e; cases e
      | some ps =>
        rw [e2] at e
        cases e
        exact .lst h1 (toP_all (fun x y => toP_dp rh x y) e2 h2)
    cases e3 : h[k]? with
    | none => rw [e3] at e; cases e
    | some o =>
      rw [e3] at e
      cases o with
      | lst xs => exact go xs (.inl e3) e
      | fro xs => exact go xs (.inr e3) e
      | dic xs => cases e
  | n + 1, .gl _, _, _, e, _ => by unfold toP at e; cases e
  | n + 1, .ty _, _, _, e, _ => by unfold toP at e; cases e
  | n + 1, .exc _ _ _ _, _, _, e, _ => by unfold toP at e; cases e
end
def maxP : Nat := 24
def eqDeep (x y : D) (h : Hd) (k : Bool → Bool) : Res D := match toP maxP h x, toP maxP h y with
  | some d, some e => if (SeqAt.shaped d && SeqAt.shaped e) = true then .ok (.bl (k (PyData.eqv d e))) h else .no
  | _, _ => .no
@[simp] def eqB (x y : D) (h : Hd) (k : Bool → Bool) : Res D := match x, y with
  | .int i, .int j => .ok (.bl (k (decide (i = j)))) h
  | .str i, .str j => .ok (.bl (k (decide (i = j)))) h
  | .bl i, .bl j => .ok (.bl (k (decide (i = j)))) h
  | _, _ => eqDeep x y h k
@[simp] def gEq : D → D → Hd → Res D := fun x y h => eqB x y h id
@[simp] def gNe : D → D → Hd → Res D := fun x y h => eqB x y h not
/-! ### arithmetic -/
def mulOk (i j : Int) : Bool := decide (i.natAbs < 18446744073709551616) || decide (j.natAbs < 18446744073709551616) || decide (i.natAbs.log2 + j.natAbs.log2 < 1000000)
def b2 (b : Bool) : Int := if b = true then 1 else 0
@[simp] def gAdd : D → D → Hd → Res D := fun x y h => match x, y with
  | .int i, .int j => .ok (.int (i + j)) h
  | .str a, .str b => if a.length + b.length ≤ 16777216 then .ok (.str (a ++ b)) h else .no
  | .tup xs, .tup ys => if xs.length + ys.length ≤ 16777216 then .ok (.tup (xs ++ ys)) h else .no
  | .ref a, .ref b => (match h[a]?, h[b]? with
    | some (.lst xs), some (.lst ys) => if xs.length + ys.length ≤ 16777216 then .ok (.ref h.length) (h ++ [.lst (xs ++ ys)]) else .no
    | _, _ => .no)
  | _, _ => .no
@[simp] def gSub : D → D → Hd → Res D := fun x y h => match x, y with
  | .int i, .int j => .ok (.int (i - j)) h
  | _, _ => .no
noncomputable def gMul : D → D → Hd → Res D := fun x y h => match x, y with
  | .int i, .int j => if mulOk i j = true then .ok (.int (i * j)) h else .no
  | .ref a, .int k => (match h[a]? with
    | some (.lst xs) => if (rngOk k && decide (xs.length * k.toNat ≤ 16777216)) = true then .ok (.ref h.length) (h ++ [.lst (List.replicate k.toNat xs).flatten]) else .no
    | _ => .no)
  | .tup xs, .int k => if (!xs.isEmpty && decide (2 ≤ k) && decide (k ≤ 1000) && decide (xs.length ≤ 1000)) = true then .ok (.tup (List.replicate k.toNat xs).flatten) h else .no
  | _, _ => .no
def gFdv : D → D → Hd → Res D := fun x y h => match x, y with
  | .int i, .int j => if (decide (j ≠ 0) && decide (j.natAbs < 1073741824)) = true then .ok (.int (i.fdiv j)) h else .no
  | _, _ => .no
def gMod : D → D → Hd → Res D := fun x y h => match x, y with
  | .int i, .int j => if decide (j ≠ 0) = true then .ok (.int (i.fmod j)) h else .no
  | _, _ => .no
def gPow : D → D → Hd → Res D := fun x y h => match x, y with
  | .int i, .int j => if (decide (0 ≤ j) && decide (j ≤ 1000000) && decide (i.natAbs < 18446744073709551616)) = true then .ok (.int (i ^ j.toNat)) h else .no
  | _, _ => .no
@[simp] def gNeg : D → Hd → Res D := fun x h => match x with
  | .int i => .ok (.int (-i)) h
  | _ => .no
@[simp] def intsD : List D → Option (List Int)
  | [] => some []
  | .int i :: r => (match intsD r with
    | some l => some (i :: l)
    | none => none)
  | _ => none
@[simp] def gLt : D → D → Hd → Res D := fun x y h => match x, y with
  | .int i, .int j => .ok (.bl (decide (i < j))) h
  | .str i, .str j => .ok (.bl (decide (i.cps.toList < j.cps.toList))) h
  | .tup xs, .tup ys => (match intsD xs, intsD ys with
    | some ns, some ms => .ok (.bl (HT.lexLt ns ms)) h
    | _, _ => .no)
  | _, _ => .no
@[simp] def gLe : D → D → Hd → Res D := fun x y h => match x, y with
  | .int i, .int j => .ok (.bl (decide (i ≤ j))) h
  | _, _ => .no
@[simp] def gGt : D → D → Hd → Res D := fun x y h => match x, y with
  | .int i, .int j => .ok (.bl (decide (j < i))) h
  | _, _ => .no
@[simp] def gGe : D → D → Hd → Res D := fun x y h => match x, y with
  | .int i, .int j => .ok (.bl (decide (j ≤ i))) h
  | _, _ => .no
@[simp] def isNon : D → Option Bool
  | .non => some true
  | .exc _ _ _ _ => none
  | _ => some false
@[simp] def gIs : D → D → Hd → Res D := fun x y h => match y with
  | .non => (match isNon x with
    | some b => .ok (.bl b) h
    | none => .no)
  | .bl k => (match x with
    | .bl b => .ok (.bl (b == k)) h
    | _ => .no)
  | _ => .no
@[simp] def gIsNot : D → D → Hd → Res D := fun x y h => match y with
  | .non => (match isNon x with
    | some b => .ok (.bl (!b)) h
    | none => .no)
  | .bl k => (match x with
    | .bl b => .ok (.bl (!(b == k))) h
    | _ => .no)
  | _ => .no
def gIn (neg : Bool) : D → D → Hd → Res D := fun x y h => match y with
  | .ref k => (match toP maxP h x, toP maxP h (.ref k) with
    | some d, some (.list ds) => if (SeqAt.shaped d && SeqAt.shaped (.list ds)) = true then .ok (.bl (xor neg (ds.any fun z => PyData.eqv z d))) h else .no
    | _, _ => .no)
  | _ => .no
section
variable {X : Cx} {R : Rx}
theorem intsD_rel {α : List Addr} {H : Hp} : ∀ {ds : List D} {ns : List Int} {vs : List V}, intsD ds = some ns → RelDs R α H ds vs → vs = ns.map V.int
  | [], ns, vs, e, r => by unfold intsD at e; cases e; rw [r.nil_inv]; rfl
  | d :: ds, ns, vs, e, r => by
    obtain ⟨v, r', rfl, h1, h2⟩ := r.cons_inv
    cases d with
    | int i =>
      unfold intsD at e
      cases e2 : intsD ds with
      | none => rw [e2] at e; cases e
      | some l =>
        rw [e2] at e
        cases e
        rw [intsD_rel e2 h2, h1.int_inv]
        rfl
    | _ => unfold intsD at e; cases e
theorem od_eq (hK : R.K = X.K) (hu : X.A.units + 64 < cLine) : OpD X R (compareOp .Eq) gEq := by
  intro x y α h H vx vy W σ Q rh rx ry f
  have deep : FinE R W α H σ (eqDeep x y h id) Q → ∃ r, OpR X (compareOp .Eq) r ∧ r vx vy H Q := fun f => by
    unfold eqDeep at f
    cases e1 : toP maxP h x with
    | none => rw [e1] at f; exact f.elim
    | some d =>
      cases e2 : toP maxP h y with
      | none => rw [e1, e2] at f; exact f.elim
      | some e =>
        rw [e1, e2] at f
        dsimp only at f
        split at f
        · rename_i hs
          rw [Bool.and_eq_true] at hs
          exact ⟨_, op_eqD hu, d, e, hK ▸ toP_dp rh e1 rx, hK ▸ toP_dp rh e2 ry, hs.1, hs.2, f α H _ .refl rh .bl⟩
        · exact f.elim
  cases x with
  | int i =>
    cases y with
    | int j =>
      rw [rx.int_inv, ry.int_inv]
      have e : decide (V.int i = V.int j) = decide (i = j) := by rw [Bool.eq_iff_iff]; simp
      exact ⟨_, op_eq, rfl, by rw [e]; exact f α H _ .refl rh .bl⟩
    | _ => exact deep f
  | str i =>
    cases y with
    | str j =>
      rw [rx.str_inv, ry.str_inv]
      have e : decide (V.str i = V.str j) = decide (i = j) := by rw [Bool.eq_iff_iff]; simp
      exact ⟨_, op_eq, rfl, by rw [e]; exact f α H _ .refl rh .bl⟩
    | _ => exact deep f
  | bl i =>
    cases y with
    | bl j =>
      rw [rx.bl_inv, ry.bl_inv]
      have e : decide (V.bl i = V.bl j) = decide (i = j) := by rw [Bool.eq_iff_iff]; simp
      exact ⟨_, op_eq, rfl, by rw [e]; exact f α H _ .refl rh .bl⟩
    | _ => exact deep f
  | _ => exact deep f
theorem od_ne (hK : R.K = X.K) (hu : X.A.units + 64 < cLine) : OpD X R (compareOp .NotEq) gNe := by
  intro x y α h H vx vy W σ Q rh rx ry f
  have deep : FinE R W α H σ (eqDeep x y h not) Q → ∃ r, OpR X (compareOp .NotEq) r ∧ r vx vy H Q := fun f => by
    unfold eqDeep at f
    cases e1 : toP maxP h x with
    | none => rw [e1] at f; exact f.elim
    | some d =>
      cases e2 : toP maxP h y with
      | none => rw [e1, e2] at f; exact f.elim
      | some e =>
        rw [e1, e2] at f
        dsimp only at f
        split at f
        · rename_i hs
          rw [Bool.and_eq_true] at hs
          exact ⟨_, op_neD hu, d, e, hK ▸ toP_dp rh e1 rx, hK ▸ toP_dp rh e2 ry, hs.1, hs.2, f α H _ .refl rh .bl⟩
        · exact f.elim
  cases x with
  | int i =>
    cases y with
    | int j =>
      rw [rx.int_inv, ry.int_inv]
      have e : decide (V.int i = V.int j) = decide (i = j) := by rw [Bool.eq_iff_iff]; simp
      exact ⟨_, op_ne, rfl, by rw [e]; exact f α H _ .refl rh .bl⟩
    | _ => exact deep f
  | str i =>
    cases y with
    | str j =>
      rw [rx.str_inv, ry.str_inv]
      have e : decide (V.str i = V.str j) = decide (i = j) := by rw [Bool.eq_iff_iff]; simp
      exact ⟨_, op_ne, rfl, by rw [e]; exact f α H _ .refl rh .bl⟩
    | _ => exact deep f
  | bl i =>
    cases y with
    | bl j =>
      rw [rx.bl_inv, ry.bl_inv]
      have e : decide (V.bl i = V.bl j) = decide (i = j) := by rw [Bool.eq_iff_iff]; simp
      exact ⟨_, op_ne, rfl, by rw [e]; exact f α H _ .refl rh .bl⟩
    | _ => exact deep f
  | _ => exact deep f
theorem od_add (hK : R.K = X.K) : OpD X R (binaryOp .Add) gAdd := by
  intro x y α h H vx vy W σ Q rh rx ry f
  cases x with
  | int i =>
    cases y with
    | int j => rw [rx.int_inv, ry.int_inv]; exact ⟨_, op_add, i, j, rfl, rfl, f α H _ .refl rh .int⟩
    | _ => exact (show False from f).elim
  | str i =>
    cases y with
    | str j =>
      unfold gAdd at f
      dsimp only at f
      split at f
      · rename_i hl
        rw [rx.str_inv, ry.str_inv]
        exact ⟨_, op_add_str, i, j, rfl, rfl, by rw [lineEq]; exact hl, f α H _ .refl rh .str⟩
      · exact f.elim
    | _ => exact (show False from f).elim
  | tup xs =>
    cases y with
    | tup ys =>
      unfold gAdd at f
      dsimp only at f
      split at f
      · rename_i hl
        obtain ⟨a, vs, rfl, q1, r1⟩ := rx.tup_inv
        obtain ⟨b, ws, rfl, q2, r2⟩ := ry.tup_inv
        refine ⟨_, op_catA, a, b, vs, ws, rfl, rfl, hK ▸ q1, hK ▸ q2, by rw [← r1.length, ← r2.length, lineEq]; exact hl, fun e => ?_, fun _ e => ?_, fun _ _ p hp => ?_⟩
        · subst e
          have : xs = [] := List.length_eq_zero_iff.mp r1.length
          subst this
          exact f α H _ .refl rh (.tup q2 r2)
        · subst e
          have : ys = [] := List.length_eq_zero_iff.mp r2.length
          subst this
          rw [List.append_nil] at f
          exact f α H _ .refl rh (.tup q1 r1)
        · obtain ⟨a1, b1, c1⟩ := new_tup rh (r1.append r2) hp
          exact f α _ _ a1 b1 c1
      · exact f.elim
    | _ => exact (show False from f).elim
  | ref m =>
    cases y with
    | ref n =>
      unfold gAdd at f
      dsimp only at f
      obtain ⟨a, ea, rfl⟩ := rx.ref_inv
      obtain ⟨b, eb, rfl⟩ := ry.ref_inv
      obtain ⟨o1, e1, ro1⟩ := rh.at ea
      obtain ⟨o2, e2, ro2⟩ := rh.at eb
      rw [e1, e2] at f
      cases o1 with
      | lst xs =>
        cases o2 with
        | lst ys =>
          obtain ⟨vs, q1, r1⟩ := ro1
          obtain ⟨ws, q2, r2⟩ := ro2
          dsimp only at f
          split at f
          · rename_i hl
            refine ⟨_, op_cat, a, b, vs, ws, rfl, rfl, q1, q2, by rw [← r1.length, ← r2.length, lineEq]; exact hl, fun p hp => ?_⟩
            obtain ⟨a1, b1, c1⟩ := new_lst rh (r1.append r2) hp
            exact f _ _ _ a1 b1 c1
          · exact f.elim
        | _ => exact (show False from f).elim
      | _ => exact (show False from f).elim
    | _ => exact (show False from f).elim
  | _ => exact (show False from f).elim
theorem od_sub : OpD X R (binaryOp .Sub) gSub := by
  intro x y α h H vx vy W σ Q rh rx ry f
  cases x with
  | int i =>
    cases y with
    | int j => rw [rx.int_inv, ry.int_inv]; exact ⟨_, op_sub, i, j, rfl, rfl, f α H _ .refl rh .int⟩
    | _ => exact (show False from f).elim
  | _ => exact (show False from f).elim
theorem od_mul (hK : R.K = X.K) : OpD X R (binaryOp .Mult) gMul := by
  intro x y α h H vx vy W σ Q rh rx ry f
  cases x with
  | int i =>
    cases y with
    | int j =>
      unfold gMul at f
      dsimp only at f
      split at f
      · rename_i hm
        rw [rx.int_inv, ry.int_inv]
        unfold mulOk at hm
        rw [Bool.or_eq_true, Bool.or_eq_true, decide_eq_true_eq, decide_eq_true_eq, decide_eq_true_eq] at hm
        have e : (2 : Int) ^ 64 = 18446744073709551616 := by decide
        rcases hm with hm | hm
        · exact ⟨_, op_mul, i, j, rfl, rfl, by unfold CMul; rw [e]; omega, f α H _ .refl rh .int⟩
        · exact ⟨_, op_mulW, i, j, rfl, rfl, hm, f α H _ .refl rh .int⟩
      · exact f.elim
    | _ => exact (show False from f).elim
  | ref m =>
    cases y with
    | int k =>
      unfold gMul at f
      dsimp only at f
      obtain ⟨a, ea, rfl⟩ := rx.ref_inv
      obtain ⟨o1, e1, ro1⟩ := rh.at ea
      rw [e1] at f
      cases o1 with
      | lst xs =>
        obtain ⟨vs, q1, r1⟩ := ro1
        dsimp only at f
        split at f
        · rename_i hl
          rw [Bool.and_eq_true, decide_eq_true_eq] at hl
          obtain ⟨k0, k3⟩ := hl
          obtain ⟨k1, k2⟩ := rngOk_of k0
          have e : (2 : Int) ^ 63 = 9223372036854775808 := by decide
          have e' : (2 : Int) ^ 62 = 4611686018427387904 := by decide
          rw [e'] at k1 k2
          rw [ry.int_inv]
          refine ⟨_, op_rep, a, k, vs, rfl, rfl, q1, by rw [e]; omega, by rw [e]; omega, by rw [← r1.length, lineEq]; exact k3, fun p hp => ?_⟩
          obtain ⟨a1, b1, c1⟩ := new_lst rh (r1.rep k.toNat) hp
          exact f _ _ _ a1 b1 c1
        · exact f.elim
      | _ => exact (show False from f).elim
    | _ => exact (show False from f).elim
  | tup xs =>
    cases y with
    | int k =>
      unfold gMul at f
      dsimp only at f
      split at f
      · rename_i hl
        rw [Bool.and_eq_true, Bool.and_eq_true, Bool.and_eq_true, decide_eq_true_eq, decide_eq_true_eq, decide_eq_true_eq] at hl
        obtain ⟨⟨⟨k0, k1⟩, k2⟩, k3⟩ := hl
        obtain ⟨a, vs, rfl, q1, r1⟩ := rx.tup_inv
        rw [ry.int_inv]
        refine ⟨_, op_repT, a, k, vs, rfl, rfl, hK ▸ q1, fun e => ?_, k1, k2, by rw [← r1.length]; exact k3, fun p hp => ?_⟩
        · subst e
          have : xs = [] := List.length_eq_zero_iff.mp r1.length
          subst this
          cases k0
        · obtain ⟨a1, b1, c1⟩ := new_tup rh (r1.rep k.toNat) hp
          exact f α _ _ a1 b1 c1
      · exact f.elim
    | _ => exact (show False from f).elim
  | _ => exact (show False from f).elim
theorem od_fdv : OpD X R (binaryOp .FloorDiv) gFdv := by
  intro x y α h H vx vy W σ Q rh rx ry f
  cases x with
  | int i =>
    cases y with
    | int j =>
      unfold gFdv at f
      dsimp only at f
      split at f
      · rename_i hm
        rw [Bool.and_eq_true, decide_eq_true_eq, decide_eq_true_eq] at hm
        rw [rx.int_inv, ry.int_inv]
        exact ⟨_, op_fdivN, i, j, rfl, rfl, hm, f α H _ .refl rh .int⟩
      · exact f.elim
    | _ => exact (show False from f).elim
  | _ => exact (show False from f).elim
theorem od_mod : OpD X R (binaryOp .Mod) gMod := by
  intro x y α h H vx vy W σ Q rh rx ry f
  cases x with
  | int i =>
    cases y with
    | int j =>
      unfold gMod at f
      dsimp only at f
      split at f
      · rename_i hm
        rw [decide_eq_true_eq] at hm
        rw [rx.int_inv, ry.int_inv]
        exact ⟨_, op_modN, i, j, rfl, rfl, hm, f α H _ .refl rh .int⟩
      · exact f.elim
    | _ => exact (show False from f).elim
  | _ => exact (show False from f).elim
theorem od_pow : OpD X R (binaryOp .Pow) gPow := by
  intro x y α h H vx vy W σ Q rh rx ry f
  cases x with
  | int i =>
    cases y with
    | int j =>
      unfold gPow at f
      dsimp only at f
      split at f
      · rename_i hm
        rw [Bool.and_eq_true, Bool.and_eq_true, decide_eq_true_eq, decide_eq_true_eq, decide_eq_true_eq] at hm
        rw [rx.int_inv, ry.int_inv]
        exact ⟨_, op_pow, i, j, rfl, rfl, ⟨hm.1.1, hm.1.2, by have e : (2 : Nat) ^ 64 = 18446744073709551616 := by decide
                                                              rw [e]; exact hm.2⟩, f α H _ .refl rh .int⟩
      · exact f.elim
    | _ => exact (show False from f).elim
  | _ => exact (show False from f).elim
theorem ud_neg : UnD X R (unaryOp .USub) gNeg := by
  intro x α h H vx W σ Q rh rx f
  cases x with
  | int i => rw [rx.int_inv]; exact ⟨_, un_neg, i, rfl, f α H _ .refl rh .int⟩
  | _ => exact (show False from f).elim
theorem od_lt (hK : R.K = X.K) (hu : X.A.units < cLine) : OpD X R (compareOp .Lt) gLt := by
  intro x y α h H vx vy W σ Q rh rx ry f
  cases x with
  | int i =>
    cases y with
    | int j => rw [rx.int_inv, ry.int_inv]; exact ⟨_, op_lt, i, j, rfl, rfl, f α H _ .refl rh .bl⟩
    | _ => exact (show False from f).elim
  | str i =>
    cases y with
    | str j => rw [rx.str_inv, ry.str_inv]; exact ⟨_, op_lt_str, i, j, rfl, rfl, f α H _ .refl rh .bl⟩
    | _ => exact (show False from f).elim
  | tup xs =>
    cases y with
    | tup ys =>
      unfold gLt at f
      dsimp only at f
      cases e1 : intsD xs with
      | none => rw [e1] at f; exact f.elim
      | some ns =>
        cases e2 : intsD ys with
        | none => rw [e1, e2] at f; exact f.elim
        | some ms =>
          rw [e1, e2] at f
          obtain ⟨a, vs, rfl, q1, r1⟩ := rx.tup_inv
          obtain ⟨b, ws, rfl, q2, r2⟩ := ry.tup_inv
          exact ⟨_, op_ltT hu, a, b, ns, ms, rfl, rfl, by rw [← intsD_rel e1 r1]; exact hK ▸ q1, by rw [← intsD_rel e2 r2]; exact hK ▸ q2, f α H _ .refl rh .bl⟩
    | _ => exact (show False from f).elim
  | _ => exact (show False from f).elim
theorem od_le : OpD X R (compareOp .LtE) gLe := by
  intro x y α h H vx vy W σ Q rh rx ry f
  cases x with
  | int i =>
    cases y with
    | int j => rw [rx.int_inv, ry.int_inv]; exact ⟨_, op_le, i, j, rfl, rfl, f α H _ .refl rh .bl⟩
    | _ => exact (show False from f).elim
  | _ => exact (show False from f).elim
theorem od_gt : OpD X R (compareOp .Gt) gGt := by
  intro x y α h H vx vy W σ Q rh rx ry f
  cases x with
  | int i =>
    cases y with
    | int j => rw [rx.int_inv, ry.int_inv]; exact ⟨_, op_gt, i, j, rfl, rfl, f α H _ .refl rh .bl⟩
    | _ => exact (show False from f).elim
  | _ => exact (show False from f).elim
theorem od_ge : OpD X R (compareOp .GtE) gGe := by
  intro x y α h H vx vy W σ Q rh rx ry f
  cases x with
  | int i =>
    cases y with
    | int j => rw [rx.int_inv, ry.int_inv]; exact ⟨_, op_ge, i, j, rfl, rfl, f α H _ .refl rh .bl⟩
    | _ => exact (show False from f).elim
  | _ => exact (show False from f).elim
theorem isNon_rel {α : List Addr} {H : Hp} {x : D} {v : V} {b : Bool} (e : isNon x = some b) (r : RelD R α H x v) : decide (v = V.non) = b := by
  cases x with
  | non => cases e; rw [r.non_inv]; rfl
  | bl k => cases e; rw [r.bl_inv]; rfl
  | int k => cases e; rw [r.int_inv]; rfl
  | str k => cases e; rw [r.str_inv]; exact decide_eq_false (by simp)
  | tup k => cases e; obtain ⟨a, vs, rfl, _⟩ := r.tup_inv; exact decide_eq_false (by simp)
  | ref k => cases e; obtain ⟨a, _, rfl⟩ := r.ref_inv; exact decide_eq_false (by simp)
  | gl k => cases e; obtain ⟨a, _, rfl⟩ := r.gl_inv; exact decide_eq_false (by simp)
  | ty k => cases e; rw [r.ty_inv]; exact decide_eq_false (by simp)
  | exc _ _ _ _ => cases e
theorem od_is : OpD X R (compareOp .Is) gIs := by
  intro x y α h H vx vy W σ Q rh rx ry f
  cases y with
  | non =>
    unfold gIs at f
    dsimp only at f
    cases e : isNon x with
    | none => rw [e] at f; exact f.elim
    | some b =>
      rw [e] at f
      rw [ry.non_inv]
      exact ⟨_, op_isN, rfl, by rw [isNon_rel e rx]; exact f α H _ .refl rh .bl⟩
  | bl k =>
    cases x with
    | bl b =>
      rw [rx.bl_inv, ry.bl_inv]
      refine ⟨_, op_is_bl, b, k, rfl, rfl, ?_⟩
      have : decide (b = k) = (b == k) := by cases b <;> cases k <;> rfl
      rw [this]
      exact f α H _ .refl rh .bl
    | _ => exact (show False from f).elim
  | _ => exact (show False from f).elim
theorem od_isnot : OpD X R (compareOp .IsNot) gIsNot := by
  intro x y α h H vx vy W σ Q rh rx ry f
  cases y with
  | non =>
    unfold gIsNot at f
    dsimp only at f
    cases e : isNon x with
    | none => rw [e] at f; exact f.elim
    | some b =>
      rw [e] at f
      rw [ry.non_inv]
      exact ⟨_, op_notN, rfl, by rw [isNon_rel e rx]; exact f α H _ .refl rh .bl⟩
  | bl k =>
    cases x with
    | bl b =>
      rw [rx.bl_inv, ry.bl_inv]
      refine ⟨_, op_isnot_bl, b, k, rfl, rfl, ?_⟩
      have : decide (b = k) = (b == k) := by cases b <;> cases k <;> rfl
      rw [this]
      exact f α H _ .refl rh .bl
    | _ => exact (show False from f).elim
  | _ => exact (show False from f).elim
theorem od_in (hK : R.K = X.K) (hu : X.A.units + 65 < cLine) : OpD X R (compareOp .In) (gIn false) := by
  intro x y α h H vx vy W σ Q rh rx ry f
  cases y with
  | ref k =>
    unfold gIn at f
    dsimp only at f
    cases e1 : toP maxP h x with
    | none => rw [e1] at f; exact f.elim
    | some d =>
      cases e2 : toP maxP h (.ref k) with
      | none => rw [e1, e2] at f; exact f.elim
      | some p =>
        rw [e1, e2] at f
        cases p with
        | list ds =>
          dsimp only at f
          split at f
          · rename_i hs
            rw [Bool.and_eq_true] at hs
            refine ⟨_, op_inD hu, d, ds, hK ▸ toP_dp rh e1 rx, hK ▸ toP_dp rh e2 ry, hs.1, hs.2, ?_⟩
            have := f α H _ .refl rh .bl
            rwa [Bool.false_xor] at this
          · exact f.elim
        | _ => exact (show False from f).elim
  | _ => exact (show False from f).elim
theorem od_notin (hK : R.K = X.K) (hu : X.A.units + 65 < cLine) : OpD X R (compareOp .NotIn) (gIn true) := by
  intro x y α h H vx vy W σ Q rh rx ry f
  cases y with
  | ref k =>
    unfold gIn at f
    dsimp only at f
    cases e1 : toP maxP h x with
    | none => rw [e1] at f; exact f.elim
    | some d =>
      cases e2 : toP maxP h (.ref k) with
      | none => rw [e1, e2] at f; exact f.elim
      | some p =>
        rw [e1, e2] at f
        cases p with
        | list ds =>
          dsimp only at f
          split at f
          · rename_i hs
            rw [Bool.and_eq_true] at hs
            refine ⟨_, op_notInD hu, d, ds, hK ▸ toP_dp rh e1 rx, hK ▸ toP_dp rh e2 ry, hs.1, hs.2, ?_⟩
            have := f α H _ .refl rh .bl
            rwa [Bool.true_xor] at this
          · exact f.elim
        | _ => exact (show False from f).elim
  | _ => exact (show False from f).elim
end
end Mi

set_option Elab.async false
set_option linter.all false
set_option maxRecDepth 100000
set_option maxHeartbeats 1000000
/-! ### tuple[::-1] -/
namespace HT2
open PySem PySem.Spec PyProof.Rows HT
section
variable {prog : Program} {w : World} {A : Around} {E : Value → Shared → Prop} {s : Shared}
theorem adjust_rev (n : Nat) : Builtin.Slice.sliceAdjust none none (-1) (n : Int) = ((n : Int) - 1, -1) := by
  unfold Builtin.Slice.sliceAdjust
  rfl
theorem places_rev (n : Nat) : Builtin.Slice.slicePlaces ((n : Int) - 1) (-1) (-1) = n := by
  unfold Builtin.Slice.slicePlaces
  rw [if_neg (by decide)]
  split
  · have : -(-1 : Int) = 1 := by decide
    rw [this, Int.ediv_one]
    omega
  · omega
theorem sliceApplied_rev {sl : Addr} {vl vu vs : Value} {n : Nat} {Q : Int × Int × Nat → Shared → Prop} (hs : s.heap.IsSliceOf sl vl vu vs) (pl : IsPart vl none) (pu : IsPart vu none) (ps : IsPart vs (some (-1)))
    (h : Q ((n : Int) - 1, -1, n) s) : wpAny (model prog w) A (Builtin.Slice.sliceApplied (.ref sl) (pure (n : Int))) Q E s := by
  obtain ⟨os, hos, hcs, hds⟩ := id hs
  unfold Builtin.Slice.sliceApplied Builtin.Slice.sliceFields
  refine wpAny_bind (wpAny_bind (wpAny_field hos hds (x := vl) rfl (wpAny_bind (wpAny_field hos hds (x := vu) rfl (wpAny_bind (wpAny_field hos hds (x := vs) rfl (wpAny_pure ?_)))))))
  refine wpAny_bind (slicePart_ ps ?_)
  show wpAny _ _ (if ((-1 : Int) == 0) = true then _ else _) _ _ s
  rw [if_neg (by decide)]
  refine wpAny_bind (slicePart_ pl (wpAny_bind (slicePart_ pu (wpAny_bind (wpAny_pure ?_)))))
  show wpAny _ _ (match Builtin.Slice.sliceAdjust none none (-1) (n : Int) with | (lo, hi) => pure (lo, (-1 : Int), Builtin.Slice.slicePlaces lo hi (-1))) _ _ s
  rw [adjust_rev]
  show wpAny _ _ (pure ((n : Int) - 1, (-1 : Int), Builtin.Slice.slicePlaces ((n : Int) - 1) (-1) (-1))) _ _ s
  rw [places_rev]
  exact wpAny_pure h
theorem fm_congr {A B : Type} {f g : A → Option B} : ∀ {l : List A}, (∀ m, m ∈ l → f m = g m) → l.filterMap f = l.filterMap g
  | [], _ => rfl
  | a :: l, h => by
    rw [List.filterMap_cons, List.filterMap_cons, h a (List.mem_cons_self ..), fm_congr fun m hm => h m (List.mem_cons_of_mem _ hm)]
theorem pick_rev_l (l : List Value) : ((List.range l.length).filterMap fun (m : Nat) => l[(((l.length : Int) - 1) + (m : Int) * (-1)).toNat]?) = l.reverse := by
  refine List.ext_getElem? fun i => ?_
  have e : ((List.range l.length).filterMap fun (m : Nat) => l[(((l.length : Int) - 1) + (m : Int) * (-1)).toNat]?) = (List.range l.length).map fun (m : Nat) => (l[(((l.length : Int) - 1) + (m : Int) * (-1)).toNat]?).getD .none := by
    rw [← List.filterMap_eq_map]
    refine fm_congr fun m hm => ?_
    rw [List.mem_range] at hm
    have : (((l.length : Int) - 1) + (m : Int) * (-1)).toNat < l.length := by omega
    show l[(((l.length : Int) - 1) + (m : Int) * (-1)).toNat]? = some ((l[(((l.length : Int) - 1) + (m : Int) * (-1)).toNat]?).getD .none)
    rw [List.getElem?_eq_getElem this]
    rfl
  rw [e, List.getElem?_map]
  by_cases hi : i < l.length
  · rw [List.getElem?_range hi, List.getElem?_reverse hi, Option.map_some]
    have h2 : (((l.length : Int) - 1) + (i : Int) * (-1)).toNat = l.length - 1 - i := by omega
    rw [h2]
    have h3 : l.length - 1 - i < l.length := by omega
    rw [List.getElem?_eq_getElem h3]
    rfl
  · rw [List.getElem?_eq_none (by simpa using hi), List.getElem?_eq_none (by simpa using hi)]
    rfl
theorem pick_rev (xs : Array Value) : ((List.range xs.size).filterMap fun (m : Nat) => xs[(((xs.size : Int) - 1) + (m : Int) * (-1)).toNat]?).toArray = xs.toList.reverse.toArray := by
  have := pick_rev_l xs.toList
  rw [Array.length_toList] at this
  rw [← this]
  congr 1
  refine fm_congr fun m _ => ?_
  rw [Array.getElem?_toList]
theorem getItem_tuple_rev {t sl : Addr} {items : Array Value} {vl vu vs : Value} {Q : Value → Shared → Prop} (ht : IsTup s.heap t items) (hs : s.heap.IsSliceOf sl vl vu vs) (pl : IsPart vl none) (pu : IsPart vu none) (ps : IsPart vs (some (-1)))
    (h : Q (.ref s.heap.objs.size) { s with heap := s.heap.push { cls := .type "tuple", data := .seq items.toList.reverse.toArray } })
    (hsz : items.size ≤ sizeLine) : wpAny (model prog w) A (getItem (.ref t) (.ref sl)) Q E s := by
  have htake : sizeOk (.seq items.toList.reverse.toArray) := by
    show items.toList.reverse.toArray.size ≤ sizeLine
    rw [List.size_toArray, List.length_reverse, Array.length_toList]
    exact hsz
  obtain ⟨os, hos, hcs, hds⟩ := id hs
  have hTs : s.TypeIs (.ref sl) "slice" := ⟨os, hos, hcs⟩
  unfold getItem
  try with_reducible refine wpAny_holding ?_
  first | refine wpAny_bind (wpAny_pure ?_) | skip
  refine wpAny_bind (wpAny_sequenceKey ht.typeIs (by decide) ?_)
  refine wpAny_bind (wpAny_callSpecial?_slot (name := Str.ofString "__getitem__") ht.typeIs PyProof.Rows.slot_tuple_getitem
    (wpAny_call_entry PyProof.Rows.slot_tuple_getitem ht.typeIs entry_tuple_getitem ?_ (args_tuple_getitem _ _)))
  show wpAny _ _ (Builtin.Tuple.tupleItemsOf (.ref t) >>= _) _ _ s
  refine wpAny_bind (tupleItemsOf_ ht ?_)
  refine wpAny_bind (wpAny_typeOf hTs ?_)
  rw [if_pos (by decide)]
  refine wpAny_bind (sliceApplied_rev hs pl pu ps ?_)
  have hno : ¬ ((((items.size : Int) - 1) == 0 && (-1 : Int) == 1 && items.size == items.size) = true) := by
    intro q
    rw [Bool.and_eq_true, Bool.and_eq_true] at q
    exact absurd q.1.2 (by decide)
  show wpAny _ _ (if (((items.size : Int) - 1) == 0 && (-1 : Int) == 1 && items.size == items.size) = true then _ else _) _ _ s
  rw [if_neg hno, pick_rev]
  first
    | exact wpAny_bind (m := Builtin.Tuple.tupleExact _) (wpAny_newObj_type (wpAny_pure ⟨_, rfl, wpAny_pure h⟩) htake)
    | exact wpAny_bind (m := Builtin.Tuple.tupleExact _) (wpAny_newObj_type (wpAny_bind (wpAny_pure (wpAny_pure ⟨_, rfl, wpAny_pure h⟩))) htake)
    | exact wpAny_bind (wpAny_bind (m := Builtin.Tuple.tupleExact _) (wpAny_newObj_type (wpAny_pure (wpAny_pure ⟨_, rfl, wpAny_pure h⟩)) htake))
    | exact wpAny_bind (wpAny_bind (m := Builtin.Tuple.tupleExact _) (wpAny_newObj_type (wpAny_pure ⟨_, rfl, wpAny_pure h⟩) htake))
end
end HT2
namespace Mi
open PySem PySem.Spec PyProof.Rows L2
/-! ### subscripts -/
@[simp] def keyD : D → Option Key
  | .int i => some (.inl i)
  | .str x => some (.inr x)
  | _ => none
theorem keyD_rel {R : Rx} {α : List Addr} {H : Hp} {x : D} {k : Key} {v : V} (e : keyD x = some k) (r : RelD R α H x v) : v = kV k := by
  cases x with
  | int i => cases e; rw [r.int_inv]; rfl
  | str i => cases e; rw [r.str_inv]; rfl
  | _ => cases e
def valD (kvs : List (Key × D)) (k : Key) : Option D := (kvs.find? fun kv => decide (kv.1 = k)).map (·.2)
def putD (kvs : List (Key × D)) (k : Key) (v : D) : List (Key × D) :=
  if (kvs.any fun kv => decide (kv.1 = k)) = true then kvs.map (fun kv => if kv.1 = k then (kv.1, v) else kv) else kvs ++ [(k, v)]
section
variable {R : Rx} {α : List Addr} {H : Hp}
theorem RelKs.nil_inv {vs : List (Key × V)} (h : RelKs R α H [] vs) : vs = [] := by unfold RelKs at h; exact h
theorem RelKs.nil : RelKs R α H [] [] := by unfold RelKs; rfl
theorem RelKs.cons_inv {k : Key} {d : D} {r : List (Key × D)} {vs : List (Key × V)} (h : RelKs R α H ((k, d) :: r) vs) : ∃ v t, vs = (k, v) :: t ∧ RelD R α H d v ∧ RelKs R α H r t := by unfold RelKs at h; exact h
theorem RelKs.cons {k : Key} {d : D} {v : V} {r : List (Key × D)} {t : List (Key × V)} (h : RelD R α H d v) (h2 : RelKs R α H r t) : RelKs R α H ((k, d) :: r) ((k, v) :: t) := by unfold RelKs; exact ⟨v, t, rfl, h, h2⟩
theorem RelKs.length : ∀ {kvs : List (Key × D)} {vs : List (Key × V)}, RelKs R α H kvs vs → kvs.length = vs.length
  | [], _, r => by rw [r.nil_inv]; rfl
  | (k, d) :: t, vs, r => by
    obtain ⟨v, t', rfl, _, r2⟩ := r.cons_inv
    rw [List.length_cons, List.length_cons, r2.length]
theorem RelKs.val : ∀ {kvs : List (Key × D)} {vs : List (Key × V)} {k : Key}, RelKs R α H kvs vs → (valD kvs k = none ∧ valV vs k = none) ∨ ∃ d v, valD kvs k = some d ∧ valV vs k = some v ∧ RelD R α H d v
  | [], vs, k, r => by rw [r.nil_inv]; exact .inl ⟨rfl, rfl⟩
  | (k', d) :: t, vs, k, r => by
    obtain ⟨v, t', rfl, r1, r2⟩ := r.cons_inv
    by_cases e : k' = k
    · refine .inr ⟨d, v, ?_, ?_, r1⟩
      · simp [valD, List.find?_cons, e]
      · simp [valV, List.find?_cons, e]
    · rcases r2.val (k := k) with ⟨a, b⟩ | ⟨d', v', a, b, c⟩
      · refine .inl ⟨?_, ?_⟩
        · rw [← a]; simp [valD, List.find?_cons, e]
        · rw [← b]; simp [valV, List.find?_cons, e]
      · refine .inr ⟨d', v', ?_, ?_, c⟩
        · rw [← a]; simp [valD, List.find?_cons, e]
        · rw [← b]; simp [valV, List.find?_cons, e]
theorem RelKs.any : ∀ {kvs : List (Key × D)} {vs : List (Key × V)} {k : Key}, RelKs R α H kvs vs → (kvs.any fun kv => decide (kv.1 = k)) = (vs.any fun kv => decide (kv.1 = k))
  | [], vs, k, r => by rw [r.nil_inv]; rfl
  | (k', d) :: t, vs, k, r => by
    obtain ⟨v, t', rfl, r1, r2⟩ := r.cons_inv
    rw [List.any_cons, List.any_cons, r2.any]
theorem RelKs.map : ∀ {kvs : List (Key × D)} {vs : List (Key × V)} {k : Key} {d : D} {v : V}, RelKs R α H kvs vs → RelD R α H d v → RelKs R α H (kvs.map (fun kv => if kv.1 = k then (kv.1, d) else kv)) (vs.map (fun kv => if kv.1 = k then (kv.1, v) else kv))
  | [], vs, k, d, v, r, _ => by rw [r.nil_inv]; exact .nil
  | (k', d') :: t, vs, k, d, v, r, h => by
    obtain ⟨v', t', rfl, r1, r2⟩ := r.cons_inv
    rw [List.map_cons, List.map_cons]
    by_cases e : k' = k
    · dsimp only
      rw [if_pos e, if_pos e]
      exact .cons h (r2.map h)
    · dsimp only
      rw [if_neg e, if_neg e]
      exact .cons r1 (r2.map h)
theorem RelKs.append : ∀ {kvs kws : List (Key × D)} {vs ws : List (Key × V)}, RelKs R α H kvs vs → RelKs R α H kws ws → RelKs R α H (kvs ++ kws) (vs ++ ws)
  | [], _, vs, _, r, h => by rw [r.nil_inv]; exact h
  | (k', d') :: t, _, vs, _, r, h => by
    obtain ⟨v', t', rfl, r1, r2⟩ := r.cons_inv
    exact .cons r1 (r2.append h)
theorem RelKs.put {kvs : List (Key × D)} {vs : List (Key × V)} {k : Key} {d : D} {v : V} (r : RelKs R α H kvs vs) (h : RelD R α H d v) : RelKs R α H (putD kvs k d) (putK vs k v) := by
  unfold putD putK
  rw [r.any (k := k)]
  split
  · exact r.map h
  · exact r.append (.cons h .nil)
theorem RelDs.at {xs : List D} {vs : List V} {i : Int} {d : D} (r : RelDs R α H xs vs) (e : atI xs i = some d) : ∃ v, atI vs i = some v ∧ RelD R α H d v := by
  unfold atI at e ⊢
  rw [← r.length]
  cases e1 : ixN xs.length i with
  | none => rw [e1] at e; cases e
  | some j =>
    rw [e1] at e
    exact r.get e
end
@[simp] def ixSeq (xs : List D) (y : D) (h : Hd) : Res D := match y with
  | .int i => (match atI xs i with
    | some d => .ok d h
    | none => .no)
  | _ => .no
@[simp] def gIx : D → D → Hd → Res D := fun x y h => match x with
  | .tup xs => ixSeq xs y h
  | .str z => (match y with
    | .int i => (match atI z.cps.toList i with
      | some c => if z.length ≤ 16777216 then .ok (.str ⟨#[c]⟩) h else .no
      | none => .no)
    | _ => .no)
  | .ref k => (match h[k]? with
    | some (.lst xs) => ixSeq xs y h
    | some (.fro xs) => ixSeq xs y h
    | some (.dic kvs) => (match keyD y with
      | some ky => (match valD kvs ky with
        | some d => .ok d h
        | none => .no)
      | none => .no)
    | none => .no)
  | _ => .no
section
variable {X : Cx} {R : Rx} {W : WX} {pos : Pos} {a b : Expr} {fa fb : Fe}
def IxD (X : Cx) (R : Rx) (g : D → D → Hd → Res D) : Prop :=
  ∀ (x y : D) (α : List Addr) (h : Hd) (H : Hp) (vx vy : V) (W : WX) (σ : St) (Q : VK), RH R α h H → RelD R α H x vx → RelD R α H y vy → FinE R W α H σ (g x y h) Q → ∃ r, IxR X r ∧ r vx vy H Q
theorem ix_dic (hu : X.A.units + 1 < cLine) : IxR X (fun x y H Q => ∃ a v, x = .ref a ∧ DGet H a y (some v) ∧ Q v H) := by
  intro value slice pins s σ H x y v u Q I rx ry h hs
  obtain ⟨a, z, rfl, g, q⟩ := h
  obtain rfl : v = Value.ref a := rx
  exact tail_any (dict_typeIs I g) PySem.F.slot_dict_getitem.lookup (d_getItem hu I g ry fun w' s3 I3 rw' => ⟨z, H, I3, rw', q⟩) hs
theorem ixd (hK : R.K = X.K) (hu : X.A.units + 1 < cLine) : IxD X R gIx := by
  intro x y α h H vx vy W σ Q rh rx ry f
  cases x with
  | tup xs =>
    cases y with
    | int i =>
      unfold gIx ixSeq at f
      dsimp only at f
      cases e : atI xs i with
      | none => rw [e] at f; exact f.elim
      | some d =>
        rw [e] at f
        obtain ⟨a, vs, rfl, q1, r1⟩ := rx.tup_inv
        obtain ⟨v, ev, rv⟩ := r1.at e
        rw [ry.int_inv]
        exact ⟨_, ix_tup, a, vs, i, v, rfl, rfl, hK ▸ q1, ev, f α H v .refl rh rv⟩
    | _ => exact (show False from f).elim
  | str z =>
    cases y with
    | int i =>
      unfold gIx at f
      dsimp only at f
      cases e : atI z.cps.toList i with
      | none => rw [e] at f; exact f.elim
      | some d =>
        rw [e] at f
        dsimp only at f
        split at f
        · rename_i hl
          rw [rx.str_inv, ry.int_inv]
          exact ⟨_, ix_str, z, i, d, rfl, rfl, by rw [lineEq]; exact hl, e, f α H _ .refl rh .str⟩
        · exact f.elim
    | _ => exact (show False from f).elim
  | ref k =>
    obtain ⟨a, ea, rfl⟩ := rx.ref_inv
    have seq : ∀ xs, (h[k]? = some (.lst xs) ∨ h[k]? = some (.fro xs)) → FinE R W α H σ (ixSeq xs y h) Q → ∃ r, IxR X r ∧ r (.ref a) vy H Q := fun xs hx f => by
      obtain ⟨vs, q1, r1⟩ := lst_of rh ea hx
      cases y with
      | int i =>
        unfold ixSeq at f
        dsimp only at f
        cases e : atI xs i with
        | none => rw [e] at f; exact f.elim
        | some d =>
          rw [e] at f
          obtain ⟨v, ev, rv⟩ := r1.at e
          rw [ry.int_inv]
          exact ⟨_, ix_list, a, vs, i, v, rfl, rfl, hK ▸ q1, ev, f α H v .refl rh rv⟩
      | _ => exact (show False from f).elim
    unfold gIx at f
    dsimp only at f
    obtain ⟨o, eo, ro⟩ := rh.at ea
    rw [eo] at f
    cases o with
    | lst xs => exact seq xs (.inl eo) f
    | fro xs => exact seq xs (.inr eo) f
    | dic kvs =>
      obtain ⟨vs, q1, r1⟩ := ro
      dsimp only at f
      cases e : keyD y with
      | none => rw [e] at f; exact f.elim
      | some ky =>
        rw [e] at f
        dsimp only at f
        rcases r1.val (k := ky) with ⟨z1, z2⟩ | ⟨d, v, z1, z2, rv⟩
        · rw [z1] at f; exact f.elim
        · rw [z1] at f
          exact ⟨_, ix_dic hu, a, v, rfl, .inl ⟨vs, ky, .inl q1, keyD_rel e ry, z2.symm⟩, f α H v .refl rh rv⟩
  | _ => exact (show False from f).elim
theorem de_ix {g : D → D → Hd → Res D} (hg : IxD X R g) (ha : DE X R W a fa) (hb : DE X R W b fb) (hs : PlainIx b := by intro _ _; rfl) : DE X R W (.Subscript a b pos) (eOp g fa fb) := by
  have hu : IxR X (fun x y H Q => ∃ r, IxR X r ∧ r x y H Q) := fun value slice pins s σ H x y v u Q I rx ry ⟨r, h1, h2⟩ hs => h1 value slice pins s σ H x y v u Q I rx ry h2 hs
  refine ⟨fun pins s σ H Q I h => (pe_ix (pos := pos) hu ha hb hs).run pins s σ H Q I ?_⟩
  obtain ⟨α, env, hp, re, rh, fi⟩ := h
  refine ⟨α, env, hp, re, rh, (Fin.split fi).imp fun v H1 hq => ?_⟩
  obtain ⟨d, α1, h1, _, x1, rh1, r1, f1⟩ := hq
  refine ⟨α1, env, h1, re.ext x1, rh1, (Fin.split f1).imp fun v2 H2 hq => ?_⟩
  obtain ⟨d2, α2, h2, _, x2, rh2, r2, f2⟩ := hq
  exact hg _ _ _ _ _ _ _ _ _ _ rh2 (RelD.ext x2 _ _ r1) r2 f2
end
/-! ### slices -/
abbrev Fo := En → Hd → Res (Option Int)
@[simp] def oNone : Fo := fun _ h => .ok none h
@[simp] def oSome (f : Fe) : Fo := fun env h => (f env h).bind fun d h1 => match d with
  | .int i => .ok (some i) h1
  | _ => .no
def cutD {A : Type} (xs : List A) (lo hi : Option Int) : List A := (xs.drop (HT.sIx xs.length 0 lo)).take (HT.sIx xs.length xs.length hi - HT.sIx xs.length 0 lo)
@[simp] def gSl : D → Option Int → Option Int → Hd → Res D := fun x lo hi h => match x with
  | .tup xs => .ok (.tup (cutD xs lo hi)) h
  | .str z => if z.length ≤ 16777216 then .ok (.str (Txt.slice z lo hi)) h else .no
  | .ref k => (match h[k]? with
    | some (.lst xs) => .ok (.ref h.length) (h ++ [.lst (cutD xs lo hi)])
    | some (.fro xs) => .ok (.ref h.length) (h ++ [.lst (cutD xs lo hi)])
    | _ => .no)
  | _ => .no
@[simp] def eSl (fe : Fe) (fl fu : Fo) : Fe := fun env h => (fe env h).bind fun x h1 => (fl env h1).bind fun l h2 => (fu env h2).bind fun u h3 => gSl x l u h3
@[simp] def revD : D → Hd → Res D := fun x h => match x with
  | .tup xs => .ok (.tup xs.reverse) h
  | .ref k => (match h[k]? with
    | some (.lst xs) => .ok (.ref h.length) (h ++ [.lst xs.reverse])
    | some (.fro xs) => .ok (.ref h.length) (h ++ [.lst xs.reverse])
    | _ => .no)
  | _ => .no
@[simp] def eRev (fe : Fe) : Fe := eUn revD fe
section
variable {X : Cx} {R : Rx} {W : WX} {pos p2 : Pos} {e l u : Expr} {fe ff : Fe} {fl fu : Fo}
def tO (R : Rx) (W : WX) (f : Fo) : TO := fun σ H Q => ∃ α env h, RelEnv R α H env σ ∧ RH R α h H ∧ Fin (fun _ _ (a b : Option Int) => a = b) R W α H σ (f env h) Q
abbrev DO (X : Cx) (R : Rx) (W : WX) (e : Option Expr) (f : Fo) : Prop := PO X e (tO R W f)
theorem do_none : DO X R W none oNone := by
  refine ⟨fun pins s σ H Q I h => po_none.run pins s σ H Q I ?_⟩
  obtain ⟨α, env, hp, re, rh, fi⟩ := h
  exact fi α H none .refl rh rfl
theorem do_some (h : DE X R W e fe) : DO X R W (some e) (oSome fe) := by
  refine ⟨fun pins s σ H Q I hh => (po_some h).run pins s σ H Q I ?_⟩
  obtain ⟨α, env, hp, re, rh, fi⟩ := hh
  refine ⟨α, env, hp, re, rh, (Fin.split fi).imp fun v H1 hq => ?_⟩
  obtain ⟨d, α1, h1, _, x1, rh1, r1, f1⟩ := hq
  cases d with
  | int i => exact ⟨i, r1.int_inv, f1 α1 H1 _ .refl rh1 rfl⟩
  | _ => exact (show False from f1).elim
theorem RelDs.cut {α : List Addr} {H : Hp} {xs : List D} {vs : List V} (r : RelDs R α H xs vs) (lo hi : Option Int) : RelDs R α H (cutD xs lo hi) (cutV vs lo hi) := by
  unfold cutD cutV
  rw [← r.length]
  exact (r.drop _).take _
theorem cut_whole {xs : List D} {lo hi : Option Int} (h : HT.sIx xs.length 0 lo = 0 ∧ HT.sIx xs.length xs.length hi = xs.length) : cutD xs lo hi = xs := by
  unfold cutD
  rw [h.1, h.2, Nat.sub_zero, List.drop_zero, List.take_length]
theorem de_sl (hK : R.K = X.K) (he : DE X R W e fe) {lo hi : Option Expr} (hl : DO X R W lo fl) (hu : DO X R W hi fu) : DE X R W (.Subscript e (.Slice lo hi none p2) pos) (eSl fe fl fu) := by
  have hU : SlR X (fun x lo hi H Q => ∃ r, SlR X r ∧ r x lo hi H Q) := fun pins s σ H x v vl vu lo hi sl Q I rx hs pl pu ⟨r, h1, h2⟩ => h1 pins s σ H x v vl vu lo hi sl Q I rx hs pl pu h2
  refine ⟨fun pins s σ H Q I h => (pe_slice (pos := pos) (p2 := p2) hU he hl hu).run pins s σ H Q I ?_⟩
  obtain ⟨α, env, hp, re, rh, fi⟩ := h
  refine ⟨α, env, hp, re, rh, (Fin.split fi).imp fun v H1 hq => ?_⟩
  obtain ⟨x, α1, h1, _, x1, rh1, r1, f1⟩ := hq
  refine ⟨α1, env, h1, re.ext x1, rh1, (Fin.split f1).imp fun lo H2 hq => ?_⟩
  obtain ⟨l, α2, h2, _, x2, rh2, (rfl : l = lo), f2⟩ := hq
  refine ⟨α2, env, h2, (re.ext x1).ext x2, rh2, (Fin.split f2).imp fun hi H3 hq => ?_⟩
  obtain ⟨u, α3, h3, _, x3, rh3, (rfl : u = hi), f3⟩ := hq
  have rx := RelD.ext (x2.trans x3) _ _ r1
  cases x with
  | tup xs =>
    obtain ⟨a, vs, rfl, q1, r2⟩ := rx.tup_inv
    refine ⟨_, sl_tupA, a, vs, rfl, hK ▸ q1, fun hw => ?_, fun hw p hp => ?_⟩
    · rw [← r2.length] at hw
      refine f3 α3 H3 _ .refl rh3 ?_
      rw [cut_whole hw]
      exact .tup q1 r2
    · obtain ⟨a1, b1, c1⟩ := new_tup rh3 (r2.cut l u) hp
      exact f3 _ _ _ a1 b1 c1
  | str z =>
    unfold gSl at f3
    dsimp only at f3
    split at f3
    · rename_i hz
      rw [rx.str_inv]
      exact ⟨_, C8.sl_txt, z, rfl, by rw [lineEq]; exact hz, f3 α3 H3 _ .refl rh3 .str⟩
    · exact f3.elim
  | ref k =>
    obtain ⟨a, ea, rfl⟩ := rx.ref_inv
    have seq : ∀ xs, (h3[k]? = some (.lst xs) ∨ h3[k]? = some (.fro xs)) → FinE R W α3 H3 σ (.ok (.ref h3.length) (h3 ++ [.lst (cutD xs l u)])) Q → ∃ r, SlR X r ∧ r (.ref a) l u H3 Q := fun xs hx f => by
      obtain ⟨vs, q1, r2⟩ := lst_of rh3 ea hx
      refine ⟨_, sl_list, a, vs, rfl, hK ▸ q1, fun p hp => ?_⟩
      obtain ⟨a1, b1, c1⟩ := new_lst rh3 (r2.cut l u) hp
      exact f _ _ _ a1 b1 c1
    unfold gSl at f3
    dsimp only at f3
    obtain ⟨o, eo, ro⟩ := rh3.at ea
    rw [eo] at f3
    cases o with
    | lst xs => exact seq xs (.inl eo) f3
    | fro xs => exact seq xs (.inr eo) f3
    | dic kvs => exact (show False from f3).elim
  | _ => exact (show False from f3).elim
/-- e[::-1] -/
def tRevA (K : PySem.W.Frag) (te : TE) : TE := fun σ H Q => te σ H fun x H1 => ∃ a xs, x = .ref a ∧ ((SqL K H1 a xs ∧ ∀ p, H1 p = none → Q (.ref p) (upd H1 p (.lst xs.reverse))) ∨ (SqT K H1 a xs ∧ ∀ p, H1 p = none → Q (.ref p) (upd H1 p (.tup xs.reverse))))
theorem pe_revA {te : TE} {k : Nat} {p1 p2 p3 pos : Pos} (he : PE X e te) : PE X (.Subscript e (.Slice none none (some (.UnaryOp .USub (.Constant (.int 1) k p1) p2)) p3) pos) (tRevA X.K te) := by
  refine ⟨fun pins s σ H Q I h => ?_⟩
  refine Subscript_ (thn (he.run pins s σ H _ I h) fun v s1 ⟨x, H1, I1, r1, q1⟩ => ?_)
  obtain ⟨a, xs, ex, q⟩ := q1
  subst ex
  cases r1
  have hst : PO X (some (.UnaryOp .USub (.Constant (.int 1) k p1) p2)) (tPart (tUn (rU fun i => .int (-i)) (tC (.int 1)))) := po_some (pe_un un_neg pe_int)
  refine wpAny_Slice (thn (po_none.run pins s1 σ H1 (fun o H2 => o = none ∧ H2 = H1) I1 ⟨rfl, rfl⟩) fun vl s2 ⟨l, H2, I2, pl, el, e2⟩ => ?_)
  subst el e2
  refine thn (po_none.run pins s2 σ H2 (fun o H3 => o = none ∧ H3 = H2) I2 ⟨rfl, rfl⟩) fun vu s3 ⟨u, H3, I3, pu, eu, e3⟩ => ?_
  subst eu e3
  refine thn (hst.run pins s3 σ H3 (fun o H4 => o = some (-1) ∧ H4 = H3) I3 ⟨1, rfl, -1, rfl, rfl, rfl⟩) fun vs s4 ⟨o, H4, I4, ps, eo, e4⟩ => ?_
  subst eo e4
  have I5 : Inv X pins σ H4 { s4 with heap := s4.heap.push { cls := .type "slice", data := .fields #[vl, vu, vs] } } := I4.kept (t' := s4.toks) fun b ob q => Heap.get?_push_of_some _ q
  show wpAny (model X.prog X.w) X.A (subscriptTail e (.Slice none none (some (.UnaryOp .USub (.Constant (.int 1) k p1) p2)) p3) (.ref a) (.ref s4.heap.objs.size)) (EP X pins σ Q) X.xe { s4 with heap := s4.heap.push { cls := .type "slice", data := .fields #[vl, vu, vs] } }
  rcases q with ⟨hx, q⟩ | ⟨hx, q⟩
  · obtain ⟨its, r, ht, hz⟩ := I5.list hx
    have hlen := r.length
    refine tail_any (ops := [.ref a, .ref s4.heap.objs.size]) ht.isList.typeIs (PySem.slot_list_getitem.lookup) ?_ (by with_unfolding_all rfl)
    refine wpAny_getItem_list_slice ht.isList (Heap.IsSliceOf.new _ vl vu vs) pl pu ps (by decide) ?_ (by rw [List.size_toArray]; omega)
    rw [PySem.W.krv_pick]
    refine ⟨.ref _, _, I5.laid (t' := s4.toks) (o := .lst xs.reverse) (fun b ob q => Heap.get?_push_of_some _ q) (Nat.le_refl _) ?_, rfl, q _ (I5.hok.fresh (Nat.le_refl _))⟩
    exact ⟨by rw [List.length_reverse]; exact hz, _, 0, r.reverse, Heap.get?_push_size _ rfl⟩
  · obtain ⟨its, r, ht, hz⟩ := I5.tuple hx
    have hlen := r.length
    refine tail_any (ops := [.ref a, .ref s4.heap.objs.size]) ht.typeIs (PyProof.Rows.slot_tuple_getitem.lookup) ?_ (by with_unfolding_all rfl)
    refine HT2.getItem_tuple_rev ht (Heap.IsSliceOf.new _ vl vu vs) pl pu ps ?_ (by rw [List.size_toArray]; omega)
    refine ⟨.ref _, _, I5.laid (t' := s4.toks) (o := .tup xs.reverse) (fun b ob q => Heap.get?_push_of_some _ q) (Nat.le_refl _) ?_, rfl, q _ (I5.hok.fresh (Nat.le_refl _))⟩
    exact ⟨by rw [List.length_reverse]; exact hz, _, r.reverse, IsTup.new _ _⟩
theorem de_rev (hK : R.K = X.K) {k : Nat} {p1 p2 p3 pos : Pos} (he : DE X R W e fe) : DE X R W (.Subscript e (.Slice none none (some (.UnaryOp .USub (.Constant (.int 1) k p1) p2)) p3) pos) (eRev fe) := by
  refine ⟨fun pins s σ H Q I h => (pe_revA he).run pins s σ H Q I ?_⟩
  obtain ⟨α, env, hp, re, rh, fi⟩ := h
  refine ⟨α, env, hp, re, rh, (Fin.split fi).imp fun v H1 hq => ?_⟩
  obtain ⟨x, α1, h1, _, x1, rh1, r1, f1⟩ := hq
  cases x with
  | tup xs =>
    obtain ⟨a, vs, rfl, q1, r2⟩ := r1.tup_inv
    refine ⟨a, vs, rfl, .inr ⟨hK ▸ q1, fun p hp => ?_⟩⟩
    obtain ⟨a1, b1, c1⟩ := new_tup rh1 r2.reverse hp
    exact f1 _ _ _ a1 b1 c1
  | ref k =>
    obtain ⟨a, ea, rfl⟩ := r1.ref_inv
    have seq : ∀ xs, (h1[k]? = some (.lst xs) ∨ h1[k]? = some (.fro xs)) → FinE R W α1 H1 σ (.ok (.ref h1.length) (h1 ++ [.lst xs.reverse])) Q → ∃ a' xs, V.ref a = .ref a' ∧ ((SqL X.K H1 a' xs ∧ ∀ p, H1 p = none → Q (.ref p) (upd H1 p (.lst xs.reverse))) ∨ (SqT X.K H1 a' xs ∧ ∀ p, H1 p = none → Q (.ref p) (upd H1 p (.tup xs.reverse)))) := fun xs hx f => by
      obtain ⟨vs, q1, r2⟩ := lst_of rh1 ea hx
      refine ⟨a, vs, rfl, .inl ⟨hK ▸ q1, fun p hp => ?_⟩⟩
      obtain ⟨a1, b1, c1⟩ := new_lst rh1 r2.reverse hp
      exact f _ _ _ a1 b1 c1
    unfold revD at f1
    dsimp only at f1
    obtain ⟨o, eo, ro⟩ := rh1.at ea
    rw [eo] at f1
    cases o with
    | lst xs => exact seq xs (.inl eo) f1
    | fro xs => exact seq xs (.inr eo) f1
    | dic kvs => exact (show False from f1).elim
  | _ => exact (show False from f1).elim
end
end Mi

set_option Elab.async false
set_option linter.all false
set_option maxRecDepth 100000
set_option maxHeartbeats 1000000
/-! ### min, max, sum, all, any of a tuple -/
namespace TupW
open PySem PySem.Spec PyProof.Rows
section
variable {prog : Program} {w : World} {A : Around} {E : Value → Shared → Prop} {s : Shared} {l : Addr} {xs : Array (Int × Tok)} {its : List Value} {ns : List Int}
theorem iter_tup {items : Array Value} {Q : Value → Shared → Prop} (hl : s.heap.IsTuple l items)
    (h : ∀ s₂ : Shared, s₂ = { s with heap := s.heap.push { cls := .type "tuple_iterator", data := .fields #[.ref l, .int 0 0] } } →
      (s₂.heap.IsTupleIter s.heap.objs.size l 0 ∧ s₂.heap.IsTuple l items) → (∀ b ∈ [s.heap.objs.size, l], b < s₂.heap.objs.size) → l ≠ s.heap.objs.size → Q (.ref s.heap.objs.size) s₂) :
    wpAny (model prog w) A (pyIter (.ref l)) Q E s := by
  have hlt : l < s.heap.objs.size := by obtain ⟨_, e, _⟩ := hl; exact Heap.lt_size e
  refine wpAny_pyIter_tuple hl (h _ rfl ⟨⟨_, Heap.get?_push_size _ rfl, rfl, rfl⟩, hl.push _⟩ (fun b hb => ?_) (Nat.ne_of_lt hlt))
  show b < (s.heap.push _).objs.size
  rw [Heap.size_push]
  rcases List.mem_cons.mp hb with rfl | hb
  · exact Nat.lt_succ_self _
  · rcases List.mem_cons.mp hb with rfl | hb
    · exact Nat.lt_succ_of_lt hlt
    · cases hb
theorem old_keptT {ob : Obj} {h' : Heap} (hk : ∀ b o, b ∉ [s.heap.objs.size] → (s.heap.push ob).get? b = some o → h'.get? b = some o) :
    ∀ b o, s.heap.get? b = some o → h'.get? b = some o := fun b o e => by
  refine hk b o (fun hm => ?_) (Heap.get?_push_of_some _ e)
  rcases List.mem_cons.mp hm with e1 | hm
  · exact absurd (e1 ▸ Heap.lt_size e) (Nat.lt_irrefl _)
  · cases hm
theorem max_tup {Q : Value → Shared → Prop} (hh : A.handled = none) (hl : s.heap.IsTuple l its.toArray) (hi : IntsAre its ns) (hne : 0 < ns.length)
    (h : ∀ h' tk M t', (∀ b o, s.heap.get? b = some o → h'.get? b = some o) → M ∈ ns → (∀ a, a ∈ ns → a ≤ M) → Q (.int M t') { s with heap := h', toks := tk }) : wpAny (model prog w) A (call (.builtin "max") [.ref l]) Q E s := by
  obtain ⟨xs, e⟩ := hi.allInts.items
  have hn : numsOf (intItems xs).toList = ns := by rw [← e]; exact hi.numsOf
  rw [nums_intItems] at hn
  subst hn
  rw [e] at hl
  have hsz : 0 < xs.size := by simpa using hne
  refine call_max_walk (iter_tup hl fun s₂ e st hfp hlI => ?_)
  subst e
  refine ⟨_, _, _, _, _, _, _, rfl, Walks.tuple (A := A.in1) hh _ l hlI (intItems xs), st, hfp, by simpa [intItems] using hsz, CmpOf.ints_gt (numAt xs) (fun _ _ => intItems_at), fun v h' tk hP hk => ?_⟩
  obtain ⟨t, rfl⟩ := intItems_at (xs := xs) (by simpa [intItems] using hP)
  obtain ⟨h1, h2⟩ := argBest_gt (numAt xs) (xs.size - 1)
  simp only [gt_iff_lt] at h1 h2
  refine h h' tk _ t (old_keptT hk) ?_ fun a ha => ?_
  · rw [numAt_eq]; exact PySem.getD_mem (by rw [List.length_map, Array.length_toList]; omega)
  · obtain ⟨j, hj, rfl⟩ := mem_getD ha
    rw [List.length_map, Array.length_toList] at hj
    rw [← numAt_eq]; exact h2 j (by omega)
theorem min_tup {Q : Value → Shared → Prop} (hh : A.handled = none) (hl : s.heap.IsTuple l its.toArray) (hi : IntsAre its ns) (hne : 0 < ns.length)
    (h : ∀ h' tk M t', (∀ b o, s.heap.get? b = some o → h'.get? b = some o) → M ∈ ns → (∀ a, a ∈ ns → M ≤ a) → Q (.int M t') { s with heap := h', toks := tk }) : wpAny (model prog w) A (call (.builtin "min") [.ref l]) Q E s := by
  obtain ⟨xs, e⟩ := hi.allInts.items
  have hn : numsOf (intItems xs).toList = ns := by rw [← e]; exact hi.numsOf
  rw [nums_intItems] at hn
  subst hn
  rw [e] at hl
  have hsz : 0 < xs.size := by simpa using hne
  refine call_min_walk (iter_tup hl fun s₂ e st hfp hlI => ?_)
  subst e
  refine ⟨_, _, _, _, _, _, _, rfl, Walks.tuple (A := A.in1) hh _ l hlI (intItems xs), st, hfp, by simpa [intItems] using hsz, CmpOf.ints_lt (numAt xs) (fun _ _ => intItems_at), fun v h' tk hP hk => ?_⟩
  obtain ⟨t, rfl⟩ := intItems_at (xs := xs) (by simpa [intItems] using hP)
  obtain ⟨h1, h2⟩ := argBest_lt (numAt xs) (xs.size - 1)
  refine h h' tk _ t (old_keptT hk) ?_ fun a ha => ?_
  · rw [numAt_eq]; exact PySem.getD_mem (by rw [List.length_map, Array.length_toList]; omega)
  · obtain ⟨j, hj, rfl⟩ := mem_getD ha
    rw [List.length_map, Array.length_toList] at hj
    rw [← numAt_eq]; exact h2 j (by omega)
theorem sum_tup {Q : Value → Shared → Prop} (hh : A.handled = none) (hl : s.heap.IsTuple l its.toArray) (hi : IntsAre its ns)
    (h : ∀ h' tk t', (∀ b o, s.heap.get? b = some o → h'.get? b = some o) → Q (.int ns.sum t') { s with heap := h', toks := tk }) : wpAny (model prog w) A (call (.builtin "sum") [.ref l]) Q E s := by
  obtain ⟨xs, e⟩ := hi.allInts.items
  have hn : numsOf (intItems xs).toList = ns := by rw [← e]; exact hi.numsOf
  rw [nums_intItems] at hn
  rw [e] at hl
  refine call_sum_walkG (iter_tup hl fun s₂ e st hfp hlI => ?_)
  subst e
  refine ⟨_, _, _, _, _, _, numAt xs, rfl, Walks.tuple (A := A.in1) hh _ l hlI (intItems xs), st, hfp, (fun _ _ => intItems_at), fun h' tk t' hk => ?_⟩
  have := h h' tk t' (old_keptT hk)
  have hz : (intItems xs).size = xs.size := by simp [intItems]
  rw [hz, preSum_eq, List.take_of_length_le (by simp), hn]
  exact this
end
end TupW
namespace Mi
open PySem PySem.Spec PyProof.Rows L2
/-! ### the parts of a walkable -/
@[simp] def seqD : D → Hd → Option (List D)
  | .tup xs, _ => some xs
  | .ref k, h => (match h[k]? with
    | some (.lst xs) => some xs
    | some (.fro xs) => some xs
    | _ => none)
  | _, _ => none
theorem seq_of {R : Rx} {α : List Addr} {H : Hp} {h : Hd} {x : D} {v : V} {xs : List D} (rh : RH R α h H) (r : RelD R α H x v) (e : seqD x h = some xs) : ∃ a vs, v = .ref a ∧ (SqL R.K H a vs ∨ SqT R.K H a vs) ∧ RelDs R α H xs vs := by
  cases x with
  | tup ys => cases e; obtain ⟨a, vs, rfl, q, r⟩ := r.tup_inv; exact ⟨a, vs, rfl, .inr q, r⟩
  | ref k =>
    obtain ⟨a, ea, rfl⟩ := r.ref_inv
    unfold seqD at e
    dsimp only at e
    obtain ⟨o, eo, ro⟩ := rh.at ea
    rw [eo] at e
    cases o with
    | lst ys => cases e; obtain ⟨vs, q, r⟩ := lst_of rh ea (.inl eo); exact ⟨a, vs, rfl, .inl q, r⟩
    | fro ys => cases e; obtain ⟨vs, q, r⟩ := lst_of rh ea (.inr eo); exact ⟨a, vs, rfl, .inl q, r⟩
    | dic ys => cases e
  | _ => cases e
@[simp] def boolsD : List D → Option (List Bool)
  | [] => some []
  | .bl i :: r => (match boolsD r with
    | some l => some (i :: l)
    | none => none)
  | _ => none
theorem boolsD_rel {R : Rx} {α : List Addr} {H : Hp} : ∀ {ds : List D} {ns : List Bool} {vs : List V}, boolsD ds = some ns → RelDs R α H ds vs → vs = ns.map V.bl
  | [], ns, vs, e, r => by unfold boolsD at e; cases e; rw [r.nil_inv]; rfl
  | d :: ds, ns, vs, e, r => by
    obtain ⟨v, r', rfl, h1, h2⟩ := r.cons_inv
    cases d with
    | bl i =>
      unfold boolsD at e
      cases e2 : boolsD ds with
      | none => rw [e2] at e; cases e
      | some l =>
        rw [e2] at e
        cases e
        rw [boolsD_rel e2 h2, h1.bl_inv]
        rfl
    | _ => unfold boolsD at e; cases e
/-! ### calls of built-ins -/
abbrev Gc := List D → Hd → Res D
def CallD (X : Cx) (R : Rx) (f : Value) (g : Gc) : Prop :=
  ∀ (ds : List D) (α : List Addr) (h : Hd) (H : Hp) (vs : List V) (W : WX) (σ : St) (Q : VK), RH R α h H → RelDs R α H ds vs → FinE R W α H σ (g ds h) Q → ∃ r, CallR X f r ∧ r vs H Q
section
variable {X : Cx} {R : Rx} {W : WX} {x : Str} {p pos : Pos} {e : Expr} {es : List Expr} {fa : Fa} {bid T : String} {g : Gc}
theorem de_callB (hc : CallD X R (.builtin bid) g) (hg : Gl X x) (hm : X.mg x = none) (hv : bootBuiltins x = some (.builtin bid)) (ha : DA X R W (e :: es) fa) (hn : x ≠ "__name__" := by decide) (hdb : (x == ("__debug__" : Str)) = false := by decide)
    (he : starEach (e :: es) X.env = (false, eval e X.env) :: starEach es X.env := by rfl) (hpl : (backTo pos (starEach es X.env)).any (·.1) = false := by rfl) : DE X R W (.Call (.Name x p) (e :: es) [] pos) (eCall g fa) := by
  have hU : CallR X (.builtin bid) (fun vs H Q => ∃ r, CallR X (.builtin bid) r ∧ r vs H Q) := fun pins s σ H xs us Q I rs ⟨r, h1, h2⟩ => h1 pins s σ H xs us Q I rs h2
  refine ⟨fun pins s σ H Q I h => (pe_callB (p := p) (pos := pos) hU hg hm hv ha hn hdb he hpl).run pins s σ H Q I ?_⟩
  obtain ⟨α, env, hp, re, rh, fi⟩ := h
  refine ⟨α, env, hp, re, rh, (Fin.split (g := g) fi).imp fun v H1 hq => ?_⟩
  obtain ⟨d, α1, h1, _, x1, rh1, r1, f1⟩ := hq
  exact hc _ _ _ _ _ _ _ _ rh1 r1 f1
theorem de_callT (hc : CallD X R (.type T) g) (hg : Gl X x) (hm : X.mg x = none) (hv : bootBuiltins x = some (.type T)) (ha : DA X R W (e :: es) fa) (hn : x ≠ "__name__" := by decide) (hdb : (x == ("__debug__" : Str)) = false := by decide)
    (he : starEach (e :: es) X.env = (false, eval e X.env) :: starEach es X.env := by rfl) (hpl : (backTo pos (starEach es X.env)).any (·.1) = false := by rfl) : DE X R W (.Call (.Name x p) (e :: es) [] pos) (eCall g fa) := by
  have hU : CallR X (.type T) (fun vs H Q => ∃ r, CallR X (.type T) r ∧ r vs H Q) := fun pins s σ H xs us Q I rs ⟨r, h1, h2⟩ => h1 pins s σ H xs us Q I rs h2
  refine ⟨fun pins s σ H Q I h => (pe_callTy (p := p) (pos := pos) hU hg hm hv ha hn hdb he hpl).run pins s σ H Q I ?_⟩
  obtain ⟨α, env, hp, re, rh, fi⟩ := h
  refine ⟨α, env, hp, re, rh, (Fin.split (g := g) fi).imp fun v H1 hq => ?_⟩
  obtain ⟨d, α1, h1, _, x1, rh1, r1, f1⟩ := hq
  exact hc _ _ _ _ _ _ _ _ rh1 r1 f1
@[simp] def gLen : Gc := fun ds h => match ds with
  | [.str z] => if z.length ≤ 16777216 then .ok (.int (z.length : Nat)) h else .no
  | [x] => (match seqD x h with
    | some xs => .ok (.int (xs.length : Nat)) h
    | none => .no)
  | _ => .no
@[simp] def gList : Gc := fun ds h => match ds with
  | [x] => (match seqD x h with
    | some xs => .ok (.ref h.length) (h ++ [.lst xs])
    | none => .no)
  | _ => .no
@[simp] def gTuple : Gc := fun ds h => match ds with
  | [x] => (match seqD x h with
    | some xs => .ok (.tup xs) h
    | none => .no)
  | _ => .no
def minL : List Int → Int
  | [] => 0
  | [n] => n
  | n :: r => if n ≤ minL r then n else minL r
def maxL : List Int → Int
  | [] => 0
  | [n] => n
  | n :: r => if maxL r ≤ n then n else maxL r
def gMinMax (one : List Int → Int) (two : Int → Int → Int) : Gc := fun ds h => match ds with
  | [.int i, .int j] => .ok (.int (two i j)) h
  | [x] => (match seqD x h with
    | some xs => (match intsD xs with
      | some (n :: r) => .ok (.int (one (n :: r))) h
      | _ => .no)
    | none => .no)
  | _ => .no
def gMin : Gc := gMinMax minL fun i j => if j < i then j else i
def gMax : Gc := gMinMax maxL fun i j => if j > i then j else i
def gSum : Gc := fun ds h => match ds with
  | [x] => (match seqD x h with
    | some xs => (match intsD xs with
      | some ns => .ok (.int ns.sum) h
      | none => .no)
    | none => .no)
  | _ => .no
def gAbs : Gc := fun ds h => match ds with
  | [.int i] => .ok (.int (if i < 0 then -i else i)) h
  | _ => .no
@[simp] def lstD : D → Hd → Option (List D)
  | .ref k, h => (match h[k]? with
    | some (.lst xs) => some xs
    | some (.fro xs) => some xs
    | _ => none)
  | _, _ => none
theorem lstD_of {α : List Addr} {H : Hp} {h : Hd} {x : D} {v : V} {xs : List D} (rh : RH R α h H) (r : RelD R α H x v) (e : lstD x h = some xs) : ∃ a vs, v = .ref a ∧ SqL R.K H a vs ∧ RelDs R α H xs vs := by
  cases x with
  | ref k =>
    obtain ⟨a, ea, rfl⟩ := r.ref_inv
    unfold lstD at e
    dsimp only at e
    obtain ⟨o, eo, ro⟩ := rh.at ea
    rw [eo] at e
    cases o with
    | lst ys => cases e; obtain ⟨vs, q, r⟩ := lst_of rh ea (.inl eo); exact ⟨a, vs, rfl, q, r⟩
    | fro ys => cases e; obtain ⟨vs, q, r⟩ := lst_of rh ea (.inr eo); exact ⟨a, vs, rfl, q, r⟩
    | dic ys => cases e
  | _ => cases e
def gAll : Gc := fun ds h => match ds with
  | [x] => (match lstD x h with
    | some xs => (match boolsD xs with
      | some bs => .ok (.bl (bs.all id)) h
      | none => .no)
    | none => .no)
  | _ => .no
def gAny : Gc := fun ds h => match ds with
  | [x] => (match lstD x h with
    | some xs => (match boolsD xs with
      | some bs => .ok (.bl (bs.any id)) h
      | none => .no)
    | none => .no)
  | _ => .no
def insI (n : Int) : List Int → List Int
  | [] => [n]
  | m :: r => if n ≤ m then n :: m :: r else m :: insI n r
def sortI : List Int → List Int
  | [] => []
  | n :: r => insI n (sortI r)
def gSorted : Gc := fun ds h => match ds with
  | [x] => (match lstD x h with
    | some xs => (match intsD xs with
      | some ns => .ok (.ref h.length) (h ++ [.lst ((sortI ns).map .int)])
      | none => .no)
    | none => .no)
  | _ => .no
def gInt : Gc := fun ds h => match ds with
  | [.int i] => .ok (.int i) h
  | [.bl k] => .ok (.int (if k = true then 1 else 0)) h
  | _ => .no
def repOk (d : PyData) : Bool := d.showable && !d.hasDict && decide (d.depth ≤ 60) && decide (d.shown.length ≤ 16777216)
def gRepr : Gc := fun ds h => match ds with
  | [x] => (match toP maxP h x with
    | some d => if repOk d = true then .ok (.str d.shown) h else .no
    | none => .no)
  | _ => .no
@[simp] def tyName : D → Hd → Option String
  | .non, _ => some "NoneType"
  | .bl _, _ => some "bool"
  | .int _, _ => some "int"
  | .str _, _ => some "str"
  | .tup _, _ => some "tuple"
  | .ref k, h => (match h[k]? with
    | some (.lst _) => some "list"
    | some (.fro _) => some "list"
    | some (.dic _) => some "dict"
    | none => none)
  | _, _ => none
def tys : List String := ["NoneType", "bool", "int", "str", "list", "tuple", "dict"]
def tqs : List String := ["bool", "int", "str", "list", "tuple", "dict"]
theorem kit_tab (K : PySem.W.Frag) : ∀ a ∈ tys, ∀ b ∈ tqs, PySem.W.kitOne K (.type a) (.type b) = some (a == b || (a == "bool" && b == "int")) := by
  intro a ha b hb
  simp only [tys, tqs, List.mem_cons, List.mem_nil_iff, or_false] at ha hb
  rcases ha with rfl | rfl | rfl | rfl | rfl | rfl | rfl <;> rcases hb with rfl | rfl | rfl | rfl | rfl | rfl <;> first | rfl | decide +kernel | kernel_rfl
theorem ty_of {K : PySem.W.Frag} {α : List Addr} {H : Hp} {h : Hd} {x : D} {v : V} {t : String} (hK : R.K = K) (rh : RH R α h H) (r : RelD R α H x v) (e : tyName x h = some t) : t ∈ tys ∧ TyX K H v (.type t) := by
  cases x with
  | non => cases e; rw [r.non_inv]; exact ⟨by decide, .base .non⟩
  | bl b => cases e; rw [r.bl_inv]; exact ⟨by decide, .base (.bl _)⟩
  | int b => cases e; rw [r.int_inv]; exact ⟨by decide, .base (.int _)⟩
  | str b => cases e; rw [r.str_inv]; exact ⟨by decide, .base (.str _)⟩
  | tup xs =>
    cases e
    obtain ⟨a, vs, rfl, q, r⟩ := r.tup_inv
    refine ⟨by decide, ?_⟩
    rcases q with (q | ⟨o, q⟩) | ⟨o, its, n, k1, k2, k3, k4, k5⟩
    · exact .base (.tup q)
    · exact .fTuple q
    · exact .kTuple (hK ▸ k1) k2
  | ref k =>
    obtain ⟨a, ea, rfl⟩ := r.ref_inv
    unfold tyName at e
    dsimp only at e
    obtain ⟨o, eo, ro⟩ := rh.at ea
    rw [eo] at e
    cases o with
    | lst ys => cases e; obtain ⟨vs, q, _⟩ := ro; exact ⟨by decide, .base (.lst q)⟩
    | fro ys => cases e; obtain ⟨vs, ob, q, _⟩ := ro; exact ⟨by decide, .base (.frz q)⟩
    | dic ys => cases e; obtain ⟨vs, q, _⟩ := ro; exact ⟨by decide, .base (.dK q)⟩
  | _ => cases e
@[simp] def gIsi : Gc := fun ds h => match ds with
  | [x, .ty T] => (match tyName x h with
    | some t => if tqs.contains T = true then .ok (.bl (t == T || (t == "bool" && T == "int"))) h else .no
    | none => .no)
  | _ => .no

theorem cd_len (hK : R.K = X.K) : CallD X R (.builtin "len") gLen := by
  intro ds α h H vs W σ Q rh rd f
  have go : ∀ x, ds = [x] → FinE R W α H σ (match seqD x h with
    | some xs => .ok (.int (xs.length : Nat)) h
    | none => .no) Q → ∃ r, CallR X (.builtin "len") r ∧ r vs H Q := fun x e f2 => by
    clear f
    subst e
    obtain ⟨v, rfl, r⟩ := rd.one
    cases e : seqD x h with
    | none => rw [e] at f2; exact f2.elim
    | some xs =>
      rw [e] at f2
      obtain ⟨a, ws, rfl, q, r2⟩ := seq_of rh r e
      rw [hK] at q
      exact ⟨_, call_len_seq, a, ws, rfl, q, by rw [← r2.length]; exact f2 α H _ .refl rh .int⟩
  cases ds with
  | nil => exact (show False from f).elim
  | cons x t =>
    cases t with
    | cons _ _ => cases x <;> exact (show False from f).elim
    | nil =>
      cases x with
      | str z =>
        unfold gLen at f
        dsimp only at f
        split at f
        · rename_i hz
          obtain ⟨v, rfl, r⟩ := rd.one
          rw [r.str_inv]
          exact ⟨_, call_len_str, z, rfl, by rw [lineEq]; exact hz, f α H _ .refl rh .int⟩
        · exact f.elim
      | _ => exact go _ rfl f
theorem one_of {g : Gc} {f : Value} (g1 : ∀ (x : D) (α : List Addr) (h : Hd) (H : Hp) (v : V) (W : WX) (σ : St) (Q : VK), RH R α h H → RelD R α H x v → FinE R W α H σ (g [x] h) Q → ∃ r, CallR X f r ∧ r [v] H Q)
    (g0 : ∀ ds h, ds.length ≠ 1 → g ds h = .no) : CallD X R f g := by
  intro ds α h H vs W σ Q rh rd fi
  by_cases hl : ds.length = 1
  · obtain ⟨x, rfl⟩ := List.length_eq_one_iff.mp hl
    obtain ⟨v, rfl, r⟩ := rd.one
    exact g1 x α h H v W σ Q rh r fi
  · rw [g0 ds h hl] at fi
    exact fi.elim
theorem not_one {g : Gc} (e : ∀ h, g [] h = .no) (e2 : ∀ a b c h, g (a :: b :: c) h = .no) : ∀ ds h, ds.length ≠ 1 → g ds h = .no := fun ds h hl => by
  match ds, hl with
  | [], _ => exact e h
  | [_], hl => exact absurd rfl hl
  | a :: b :: c, _ => exact e2 a b c h
theorem cd_list (hK : R.K = X.K) : CallD X R (.type "list") gList := by
  refine one_of (fun x α h H v W σ Q rh r f => ?_) (not_one (fun _ => rfl) fun _ _ _ _ => rfl)
  unfold gList at f
  dsimp only at f
  cases e : seqD x h with
  | none => rw [e] at f; exact f.elim
  | some xs =>
    rw [e] at f
    obtain ⟨a, ws, rfl, q, r2⟩ := seq_of rh r e
    rw [hK] at q
    refine ⟨_, call_list_of, a, ws, rfl, q, fun l hl => ?_⟩
    obtain ⟨a1, b1, c1⟩ := new_lst rh r2 hl
    exact f _ _ _ a1 b1 c1
theorem cd_tuple (hK : R.K = X.K) : CallD X R (.type "tuple") gTuple := by
  refine one_of (fun x α h H v W σ Q rh r f => ?_) (not_one (fun _ => rfl) fun _ _ _ _ => rfl)
  unfold gTuple at f
  dsimp only at f
  cases e : seqD x h with
  | none => rw [e] at f; exact f.elim
  | some xs =>
    rw [e] at f
    obtain ⟨a, ws, rfl, q, r2⟩ := seq_of rh r e
    rcases q with q | q
    · refine ⟨_, call_tuple_of, a, ws, rfl, .inl ⟨hK ▸ q, fun l hl => ?_⟩⟩
      obtain ⟨a1, b1, c1⟩ := new_tup rh r2 hl
      exact f _ _ _ a1 b1 c1
    · exact ⟨_, call_tuple_of, a, ws, rfl, .inr ⟨hK ▸ q, f α H _ .refl rh (.tup q r2)⟩⟩
theorem minL_spec : ∀ (r : List Int) (n : Int), minL (n :: r) ∈ n :: r ∧ ∀ y ∈ n :: r, minL (n :: r) ≤ y
  | [], n => ⟨by simp [minL], by simp [minL]⟩
  | m :: r, n => by
    obtain ⟨h1, h2⟩ := minL_spec r m
    unfold minL
    split
    · rename_i h
      refine ⟨by simp, fun y hy => ?_⟩
      rcases List.mem_cons.mp hy with rfl | hy
      · exact Int.le_refl _
      · exact Int.le_trans h (h2 y hy)
    · rename_i h
      refine ⟨List.mem_cons_of_mem _ h1, fun y hy => ?_⟩
      rcases List.mem_cons.mp hy with rfl | hy
      · omega
      · exact h2 y hy
theorem maxL_spec : ∀ (r : List Int) (n : Int), maxL (n :: r) ∈ n :: r ∧ ∀ y ∈ n :: r, y ≤ maxL (n :: r)
  | [], n => ⟨by simp [maxL], by simp [maxL]⟩
  | m :: r, n => by
    obtain ⟨h1, h2⟩ := maxL_spec r m
    unfold maxL
    split
    · rename_i h
      refine ⟨by simp, fun y hy => ?_⟩
      rcases List.mem_cons.mp hy with rfl | hy
      · exact Int.le_refl _
      · exact Int.le_trans (h2 y hy) h
    · rename_i h
      refine ⟨List.mem_cons_of_mem _ h1, fun y hy => ?_⟩
      rcases List.mem_cons.mp hy with rfl | hy
      · omega
      · exact h2 y hy
/-- min of a tuple -/
theorem cr_minT (hc : X.calm = true) : CallR X (.builtin "min") (fun vs H Q => ∃ (a : Addr) (ns : List Int), vs = [V.ref a] ∧ SqT X.K H a (ns.map V.int) ∧ 0 < ns.length ∧ ∀ m, m ∈ ns → (∀ y, y ∈ ns → m ≤ y) → Q (.int m) H) := by
  intro pins s σ H vs us Q I r h
  obtain ⟨a, ns, rfl, hs, hne, q⟩ := h
  obtain ⟨its, rv, hl, _⟩ := I.tuple hs
  rw [Vals.ref1 r]
  exact TupW.min_tup (I.ok.hd hc) (show s.heap.IsTuple a its.toArray from hl) rv.ints hne fun h' tk m t' hk h1 h2 => ⟨.int _, H, I.kept hk, ⟨_, rfl⟩, q m h1 h2⟩
theorem cr_maxT (hc : X.calm = true) : CallR X (.builtin "max") (fun vs H Q => ∃ (a : Addr) (ns : List Int), vs = [V.ref a] ∧ SqT X.K H a (ns.map V.int) ∧ 0 < ns.length ∧ ∀ m, m ∈ ns → (∀ y, y ∈ ns → y ≤ m) → Q (.int m) H) := by
  intro pins s σ H vs us Q I r h
  obtain ⟨a, ns, rfl, hs, hne, q⟩ := h
  obtain ⟨its, rv, hl, _⟩ := I.tuple hs
  rw [Vals.ref1 r]
  exact TupW.max_tup (I.ok.hd hc) (show s.heap.IsTuple a its.toArray from hl) rv.ints hne fun h' tk m t' hk h1 h2 => ⟨.int _, H, I.kept hk, ⟨_, rfl⟩, q m h1 h2⟩
theorem cr_sumT (hc : X.calm = true) : CallR X (.builtin "sum") (fun vs H Q => ∃ (a : Addr) (ns : List Int), vs = [V.ref a] ∧ SqT X.K H a (ns.map V.int) ∧ Q (.int ns.sum) H) := by
  intro pins s σ H vs us Q I r h
  obtain ⟨a, ns, rfl, hs, q⟩ := h
  obtain ⟨its, rv, hl, _⟩ := I.tuple hs
  rw [Vals.ref1 r]
  exact TupW.sum_tup (I.ok.hd hc) (show s.heap.IsTuple a its.toArray from hl) rv.ints fun h' tk t' hk => ⟨.int _, H, I.kept hk, ⟨_, rfl⟩, q⟩
theorem ints_seq {α : List Addr} {H : Hp} {h : Hd} {x : D} {v : V} {xs : List D} {ns : List Int} (hK : R.K = X.K) (rh : RH R α h H) (r : RelD R α H x v) (e : seqD x h = some xs) (e2 : intsD xs = some ns) : ∃ a, v = .ref a ∧ (SqL X.K H a (ns.map V.int) ∨ SqT X.K H a (ns.map V.int)) := by
  obtain ⟨a, ws, rfl, q, r2⟩ := seq_of rh r e
  rw [intsD_rel e2 r2, hK] at q
  exact ⟨a, rfl, q⟩
theorem cd_mm {nm : String} {one : List Int → Int} {two : Int → Int → Int} {r1 r2 r3 : List V → Hp → VK → Prop} (hK : R.K = X.K) (h1 : CallR X (.builtin nm) r1) (h2 : CallR X (.builtin nm) r2) (h3 : CallR X (.builtin nm) r3)
    (q1 : ∀ a n r H Q, SqL X.K H a ((n :: r).map V.int) → Q (V.int (one (n :: r))) H → r1 [.ref a] H Q) (q2 : ∀ a n r H Q, SqT X.K H a ((n :: r).map V.int) → Q (V.int (one (n :: r))) H → r2 [.ref a] H Q)
    (q3 : ∀ i j H Q, Q (V.int (two i j)) H → r3 [.int i, .int j] H Q) : CallD X R (.builtin nm) (gMinMax one two) := by
  intro ds α h H vs W σ Q rh rd f
  have go : ∀ x, ds = [x] → FinE R W α H σ (match seqD x h with
    | some xs => (match intsD xs with
      | some (n :: r) => .ok (.int (one (n :: r))) h
      | _ => .no)
    | none => .no) Q → ∃ r, CallR X (.builtin nm) r ∧ r vs H Q := fun x e f2 => by
    clear f
    subst e
    obtain ⟨v, rfl, r⟩ := rd.one
    cases e : seqD x h with
    | none => rw [e] at f2; exact f2.elim
    | some xs =>
      rw [e] at f2
      dsimp only at f2
      cases e2 : intsD xs with
      | none => rw [e2] at f2; exact f2.elim
      | some ns =>
        rw [e2] at f2
        cases ns with
        | nil => exact (show False from f2).elim
        | cons n t =>
          obtain ⟨a, rfl, q⟩ := ints_seq hK rh r e e2
          rcases q with q | q
          · exact ⟨_, h1, q1 a n t H Q q (f2 α H _ .refl rh .int)⟩
          · exact ⟨_, h2, q2 a n t H Q q (f2 α H _ .refl rh .int)⟩
  cases ds with
  | nil => exact (show False from f).elim
  | cons x t =>
    cases t with
    | nil => cases x <;> exact go _ rfl f
    | cons y t =>
      cases t with
      | cons _ _ => cases x <;> cases y <;> exact (show False from f).elim
      | nil =>
        cases x with
        | int i =>
          cases y with
          | int j =>
            obtain ⟨v, v', rfl, r1, r2⟩ := rd.two
            rw [r1.int_inv, r2.int_inv]
            exact ⟨_, h3, q3 i j H Q (f α H _ .refl rh .int)⟩
          | _ => exact (show False from f).elim
        | _ => cases y <;> exact (show False from f).elim
theorem le_anti {a b : Int} (h : a ≤ b) (h2 : b ≤ a) : a = b := Int.le_antisymm h h2
theorem cd_min (hK : R.K = X.K) (hc : X.calm = true) : CallD X R (.builtin "min") gMin := by
  refine cd_mm hK (cr_min hc) (cr_minT hc) (call_min2 hc) (fun a n r H Q q h => ?_) (fun a n r H Q q h => ?_) fun i j H Q h => ⟨i, j, rfl, h⟩
  · refine ⟨a, n :: r, rfl, q, by simp, fun m hm h2 => ?_⟩
    obtain ⟨s1, s2⟩ := minL_spec r n
    rw [le_anti (h2 _ s1) (s2 _ hm)]
    exact h
  · refine ⟨a, n :: r, rfl, q, by simp, fun m hm h2 => ?_⟩
    obtain ⟨s1, s2⟩ := minL_spec r n
    rw [le_anti (h2 _ s1) (s2 _ hm)]
    exact h
theorem cd_max (hK : R.K = X.K) (hc : X.calm = true) : CallD X R (.builtin "max") gMax := by
  refine cd_mm hK (cr_max hc) (cr_maxT hc) (call_max2 hc) (fun a n r H Q q h => ?_) (fun a n r H Q q h => ?_) fun i j H Q h => ⟨i, j, rfl, h⟩
  · refine ⟨a, n :: r, rfl, q, by simp, fun m hm h2 => ?_⟩
    obtain ⟨s1, s2⟩ := maxL_spec r n
    rw [le_anti (s2 _ hm) (h2 _ s1)]
    exact h
  · refine ⟨a, n :: r, rfl, q, by simp, fun m hm h2 => ?_⟩
    obtain ⟨s1, s2⟩ := maxL_spec r n
    rw [le_anti (s2 _ hm) (h2 _ s1)]
    exact h
theorem cd_sum (hK : R.K = X.K) (hc : X.calm = true) : CallD X R (.builtin "sum") gSum := by
  refine one_of (fun x α h H v W σ Q rh r f => ?_) (not_one (fun _ => rfl) fun _ _ _ _ => rfl)
  unfold gSum at f
  dsimp only at f
  cases e : seqD x h with
  | none => rw [e] at f; exact f.elim
  | some xs =>
    rw [e] at f
    dsimp only at f
    cases e2 : intsD xs with
    | none => rw [e2] at f; exact f.elim
    | some ns =>
      rw [e2] at f
      obtain ⟨a, rfl, q⟩ := ints_seq hK rh r e e2
      rcases q with q | q
      · exact ⟨_, cr_sum hc, a, ns, rfl, q, f α H _ .refl rh .int⟩
      · exact ⟨_, cr_sumT hc, a, ns, rfl, q, f α H _ .refl rh .int⟩
theorem cd_abs : CallD X R (.builtin "abs") gAbs := by
  refine one_of (fun x α h H v W σ Q rh r f => ?_) (not_one (fun _ => rfl) fun _ _ _ _ => by unfold gAbs; split <;> simp_all)
  cases x with
  | int i => rw [r.int_inv]; exact ⟨_, call_abs, i, rfl, f α H _ .refl rh .int⟩
  | _ => exact (show False from f).elim
theorem cd_all (hK : R.K = X.K) (hc : X.calm = true) : CallD X R (.builtin "all") gAll := by
  refine one_of (fun x α h H v W σ Q rh r f => ?_) (not_one (fun _ => rfl) fun _ _ _ _ => rfl)
  unfold gAll at f
  dsimp only at f
  cases e : lstD x h with
  | none => rw [e] at f; exact f.elim
  | some xs =>
    rw [e] at f
    dsimp only at f
    cases e2 : boolsD xs with
    | none => rw [e2] at f; exact f.elim
    | some ns =>
      rw [e2] at f
      obtain ⟨a, ws, rfl, q, r2⟩ := lstD_of rh r e
      rw [boolsD_rel e2 r2, hK] at q
      exact ⟨_, cr_all hc, a, ns, rfl, q, f α H _ .refl rh .bl⟩
theorem cd_any (hK : R.K = X.K) (hc : X.calm = true) : CallD X R (.builtin "any") gAny := by
  refine one_of (fun x α h H v W σ Q rh r f => ?_) (not_one (fun _ => rfl) fun _ _ _ _ => rfl)
  unfold gAny at f
  dsimp only at f
  cases e : lstD x h with
  | none => rw [e] at f; exact f.elim
  | some xs =>
    rw [e] at f
    dsimp only at f
    cases e2 : boolsD xs with
    | none => rw [e2] at f; exact f.elim
    | some ns =>
      rw [e2] at f
      obtain ⟨a, ws, rfl, q, r2⟩ := lstD_of rh r e
      rw [boolsD_rel e2 r2, hK] at q
      exact ⟨_, cr_any hc, a, ns, rfl, q, f α H _ .refl rh .bl⟩
theorem insI_perm (n : Int) : ∀ l : List Int, (insI n l).Perm (n :: l)
  | [] => .refl _
  | m :: r => by
    unfold insI
    split
    · exact .refl _
    · exact ((insI_perm n r).cons m).trans (.swap n m r)
theorem sortI_perm : ∀ l : List Int, (sortI l).Perm l
  | [] => .refl _
  | n :: r => (insI_perm n (sortI r)).trans ((sortI_perm r).cons n)
theorem insI_sorted (n : Int) : ∀ l : List Int, l.Pairwise (· ≤ ·) → (insI n l).Pairwise (· ≤ ·)
  | [], _ => by simp [insI]
  | m :: r, h => by
    rw [List.pairwise_cons] at h
    unfold insI
    split
    · rename_i hnm
      rw [List.pairwise_cons]
      refine ⟨fun y hy => ?_, List.pairwise_cons.mpr h⟩
      rcases List.mem_cons.mp hy with rfl | hy
      · exact hnm
      · exact Int.le_trans hnm (h.1 y hy)
    · rename_i hnm
      rw [List.pairwise_cons]
      refine ⟨fun y hy => ?_, insI_sorted n r h.2⟩
      have := (insI_perm n r).mem_iff.mp hy
      rcases List.mem_cons.mp this with rfl | hy
      · omega
      · exact h.1 y hy
theorem sortI_sorted : ∀ l : List Int, (sortI l).Pairwise (· ≤ ·)
  | [] => .nil
  | n :: r => insI_sorted n _ (sortI_sorted r)
theorem sorted_uniq : ∀ {l m : List Int}, l.Perm m → l.Pairwise (· ≤ ·) → m.Pairwise (· ≤ ·) → l = m
  | [], m, p, _, _ => (List.nil_perm.mp p).symm
  | a :: l, [], p, _, _ => (List.perm_nil.mp p)
  | a :: l, b :: m, p, h1, h2 => by
    rw [List.pairwise_cons] at h1 h2
    have e : a = b := by
      have ha := p.mem_iff.mp (List.mem_cons_self ..)
      have hb := p.symm.mem_iff.mp (List.mem_cons_self ..)
      rcases List.mem_cons.mp ha with e | ha
      · exact e
      · rcases List.mem_cons.mp hb with e | hb
        · exact e.symm
        · have z1 := h1.1 b hb
          have z2 := h2.1 a ha
          omega
    subst e
    rw [sorted_uniq ((List.perm_cons a).mp p) h1.2 h2.2]
theorem rel_ints {α : List Addr} {H : Hp} : ∀ ns : List Int, RelDs R α H (ns.map .int) (ns.map .int)
  | [] => .nil
  | _ :: r => .cons .int (rel_ints r)
theorem cd_sorted (hK : R.K = X.K) : CallD X R (.builtin "sorted") gSorted := by
  refine one_of (fun x α h H v W σ Q rh r f => ?_) (not_one (fun _ => rfl) fun _ _ _ _ => rfl)
  unfold gSorted at f
  dsimp only at f
  cases e : lstD x h with
  | none => rw [e] at f; exact f.elim
  | some xs =>
    rw [e] at f
    dsimp only at f
    cases e2 : intsD xs with
    | none => rw [e2] at f; exact f.elim
    | some ns =>
      rw [e2] at f
      obtain ⟨a, ws, rfl, q, r2⟩ := lstD_of rh r e
      rw [intsD_rel e2 r2, hK] at q
      refine ⟨_, cr_sortedI, a, ns, rfl, q, fun ns' p hp hs hn => ?_⟩
      have e3 : ns' = sortI ns := sorted_uniq (hp.trans (sortI_perm ns).symm) hs (sortI_sorted ns)
      subst e3
      obtain ⟨a1, b1, c1⟩ := new_lst rh (rel_ints (R := R) (α := α) (H := H) (sortI ns)) hn
      exact f _ _ _ a1 b1 c1
theorem cd_int : CallD X R (.type "int") gInt := by
  refine one_of (fun x α h H v W σ Q rh r f => ?_) (not_one (fun _ => rfl) fun _ _ _ _ => by unfold gInt; split <;> simp_all)
  cases x with
  | int i => rw [r.int_inv]; exact ⟨_, call_int1, .inl ⟨i, rfl, f α H _ .refl rh .int⟩⟩
  | bl i => rw [r.bl_inv]; exact ⟨_, call_int1, .inr ⟨i, rfl, f α H _ .refl rh .int⟩⟩
  | _ => exact (show False from f).elim
/-- repr of data -/
def rRepr (K : PySem.W.Frag) : List V → Hp → VK → Prop := fun vs H Q => ∃ v d, vs = [v] ∧ Dp K H v d ∧ repOk d = true ∧ Q (.str d.shown) H
theorem cr_repr (hgd : X.A.guards = some []) (hu : X.A.units + 64 < cLine) : CallR X (.builtin "repr") (rRepr X.K) := by
  intro pins s σ H vs us Q I r h
  obtain ⟨v, d, rfl, dp, ok, q⟩ := h
  obtain ⟨u, rfl, ru⟩ := r.one
  unfold repOk at ok
  rw [Bool.and_eq_true, Bool.and_eq_true, Bool.and_eq_true, decide_eq_true_eq, decide_eq_true_eq, Bool.not_eq_true'] at ok
  obtain ⟨⟨⟨k1, k2⟩, k3⟩, k4⟩ := ok
  have hz : d.shown.length ≤ sizeLine := by rw [lineEq]; exact k4
  have go : ∀ a, u = .ref a → wpAny (model X.prog X.w) X.A (call (.builtin "repr") [u]) (EP X pins σ Q) X.xe s := fun a e => by
    subst e
    obtain ⟨as, rd⟩ := Dp.reads I d v _ dp ru
    exact repr_of_reads' rd k1 (fun hx => by rw [k2] at hx; exact absurd hx Bool.false_ne_true) hgd (by omega) (fun _ _ e => e) (fun h' u tk hk => ⟨.str d.shown, H, I.kept hk, ⟨_, rfl⟩, q⟩) hz
  cases dp with
  | non => cases ru; exact P.repr_of_none ⟨.str _, H, I.tok _, ⟨_, by first | rfl | (simp only [PyData.shown]; rfl)⟩, q⟩
  | bl b => cases ru; exact P.repr_of_bool ⟨.str _, H, I.tok _, ⟨_, by first | rfl | (simp only [PyData.shown]; rfl)⟩, q⟩
  | int i =>
    obtain ⟨t, rfl⟩ := ru
    have : i.natAbs.log2 < 1920 := by simpa [PyData.showable] using k1
    exact P.repr_of_int this ⟨.str _, H, I.tok _, ⟨_, by first | rfl | (simp only [PyData.shown]; rfl)⟩, q⟩
  | str z =>
    obtain ⟨t, rfl⟩ := ru
    exact P.repr_of_str ⟨.str _, H, I.tok _, ⟨_, by first | rfl | (simp only [PyData.shown]; rfl)⟩, q⟩ (by simpa only [PyData.shown] using hz)
  | lst a b => exact go _ ru
  | tup a b => exact go _ ru
theorem cd_repr (hK : R.K = X.K) (hgd : X.A.guards = some []) (hu : X.A.units + 64 < cLine) : CallD X R (.builtin "repr") gRepr := by
  refine one_of (fun x α h H v W σ Q rh r f => ?_) (not_one (fun _ => rfl) fun _ _ _ _ => rfl)
  unfold gRepr at f
  dsimp only at f
  cases e : toP maxP h x with
  | none => rw [e] at f; exact f.elim
  | some d =>
    rw [e] at f
    dsimp only at f
    split at f
    · rename_i ok
      exact ⟨_, cr_repr hgd hu, v, d, rfl, hK ▸ toP_dp rh e r, ok, f α H _ .refl rh .str⟩
    · exact f.elim
theorem cd_isi (hK : R.K = X.K) : CallD X R (.builtin "isinstance") gIsi := by
  intro ds α h H vs W σ Q rh rd f
  cases ds with
  | nil => exact (show False from f).elim
  | cons x t =>
    cases t with
    | nil => cases x <;> exact (show False from f).elim
    | cons y t =>
      cases t with
      | cons _ _ => cases y <;> exact (show False from f).elim
      | nil =>
        cases y with
        | ty T =>
          unfold gIsi at f
          dsimp only at f
          cases e : tyName x h with
          | none => rw [e] at f; exact f.elim
          | some t =>
            rw [e] at f
            dsimp only at f
            split at f
            · rename_i hT
              obtain ⟨v, v', rfl, r1, r2⟩ := rd.two
              rw [r2.ty_inv]
              obtain ⟨m, tx⟩ := ty_of hK rh r1 e
              exact ⟨_, call_isi, v, .ty T, .type t, .type T, _, rfl, .ty T, tx, kit_tab X.K t m T (by simpa using hT), f α H _ .refl rh .bl⟩
            · exact f.elim
        | _ => exact (show False from f).elim
end
end Mi

set_option Elab.async false
set_option linter.all false
set_option maxRecDepth 100000
set_option maxHeartbeats 1000000
namespace Mi
open PySem PySem.Spec PyProof.Rows L2
/-! ### a chain of two comparisons -/
section
variable {X : Cx} {R : Rx} {W : WX} {pos : Pos} {a b c : Expr} {fa fb fc : Fe} {op op' : CmpOp} {g g' : D → D → Hd → Res D}
def rOU (X : Cx) (f : Value → Value → Sem Value) : R2 := fun x y H Q => ∃ r, OpR X f r ∧ r x y H Q
theorem opU {f : Value → Value → Sem Value} : OpR X f (rOU X f) := fun pins s σ H x y v u Q I rx ry ⟨r, h1, h2⟩ => h1 pins s σ H x y v u Q I rx ry h2
theorem chain_in (ho : OpD X R (compareOp op) g) (ho' : OpD X R (compareOp op') g') {σ : St} {H : Hp} {Q : VK} (h : tE R W (eChain g g' fa fb fc) σ H Q) : tChain (rOU X (compareOp op)) (rOU X (compareOp op')) (tE R W fa) (tE R W fb) (tE R W fc) σ H Q := by
  obtain ⟨α, env, hp, re, rh, fi⟩ := h
  refine ⟨α, env, hp, re, rh, (Fin.split fi).imp fun x H1 hq => ?_⟩
  obtain ⟨dx, α1, h1, _, x1, rh1, r1, f1⟩ := hq
  refine ⟨α1, env, h1, re.ext x1, rh1, (Fin.split f1).imp fun y H2 hq => ?_⟩
  obtain ⟨dy, α2, h2, _, x2, rh2, r2, f2⟩ := hq
  have rx := RelD.ext x2 _ _ r1
  refine ho _ _ _ _ _ _ _ _ _ _ rh2 rx r2 ((Fin.split f2).imp fun z H3 hq => ?_)
  obtain ⟨dz, α3, h3, _, x3, rh3, r3, f3⟩ := hq
  cases dz with
  | bl k =>
    refine ⟨k, r3.bl_inv, ?_⟩
    cases k with
    | true =>
      rw [if_pos rfl]
      refine ⟨α3, env, h3, ((re.ext x1).ext x2).ext x3, rh3, (Fin.split f3).imp fun w H4 hq => ?_⟩
      obtain ⟨dw, α4, h4, _, x4, rh4, r4, f4⟩ := hq
      exact ho' _ _ _ _ _ _ _ _ _ _ rh4 (RelD.ext (x3.trans x4) _ _ r2) r4 f4
    | false =>
      rw [if_neg (by decide)]
      exact f3 α3 H3 _ .refl rh3 .bl
  | _ => exact (show False from f3).elim
theorem de_chain (ho : OpD X R (compareOp op) g) (ho' : OpD X R (compareOp op') g') (ha : DE X R W a fa) (hb : DE X R W b fb) (hc : DE X R W c fc) (hm : lastMarks [op, op'] [b, c] = false := by with_unfolding_all rfl) :
    DE X R W (.Compare a [op, op'] [b, c] pos) (eChain g g' fa fb fc) :=
  ⟨fun pins s σ H Q I h => (pe_chain (pos := pos) opU opU ha hb hc hm).run pins s σ H Q I (chain_in ho ho' h)⟩
theorem dt_chain (ho : OpD X R (compareOp op) g) (ho' : OpD X R (compareOp op') g') (ha : DE X R W a fa) (hb : DE X R W b fb) (hc : DE X R W c fc) (hm : lastMarks [op, op'] [b, c] = false := by with_unfolding_all rfl) :
    DT X R W (.Compare a [op, op'] [b, c] pos) (tOf (eChain g g' fa fb fc)) := by
  refine ⟨fun pins s σ H Q I h => (pt_chain (pos := pos) opU opU ha hb hc hm).run pins s σ H Q I ?_⟩
  obtain ⟨α, env, hp, re, rh, fi⟩ := h
  refine chain_in (W := W) ho ho' ⟨α, env, hp, re, rh, (Fin.split (g := toB) fi).imp fun v H1 hq => ?_⟩
  obtain ⟨d, α1, h1, _, x1, rh1, rd1, f1⟩ := hq
  cases d with
  | bl k => exact ⟨k, rd1.bl_inv, f1 α1 H1 k .refl rh1 rfl⟩
  | _ => exact (show False from f1).elim
end
/-! ### methods of built-in types -/
abbrev Gm := D → List D → Hd → Res D
@[simp] def recvOk (T : String) (x : D) (h : Hd) : Bool := match x with
  | .str _ => T == "str"
  | .ref n => (match h[n]? with
    | some (.lst _) => T == "list"
    | some (.fro _) => T == "list"
    | _ => false)
  | _ => false
@[simp] def eMeth (T : String) (g : Gm) (fo : Fe) (fa : Fa) : Fe := fun env h => (fo env h).bind fun x h1 => if recvOk T x h1 = true then (fa env h1).bind fun ds h2 => g x ds h2 else .no
def MtD (X : Cx) (R : Rx) (id : String) (g : Gm) : Prop :=
  ∀ (x : D) (ds : List D) (α : List Addr) (h : Hd) (H : Hp) (v : V) (vs : List V) (W : WX) (σ : St) (Q : VK), RH R α h H → RelD R α H x v → RelDs R α H ds vs → FinE R W α H σ (g x ds h) Q → ∃ r, MtM X id r ∧ r v vs H Q
section
variable {X : Cx} {R : Rx} {W : WX} {o e : Expr} {es : List Expr} {fo : Fe} {fa : Fa} {name : Str} {apos cpos : Pos} {T mid : String} {g : Gm}
theorem recv_ty {α : List Addr} {H : Hp} {h : Hd} {x : D} {v : V} (hK : R.K = X.K) (rh : RH R α h H) (r : RelD R α H x v) (ok : recvOk T x h = true) : tyV X.K T v H := by
  cases x with
  | str z => rw [r.str_inv]; exact beq_iff_eq.mp ok
  | ref n =>
    obtain ⟨a, ea, rfl⟩ := r.ref_inv
    unfold recvOk at ok
    dsimp only at ok
    obtain ⟨ob, eo, ro⟩ := rh.at ea
    rw [eo] at ok
    cases ob with
    | lst xs =>
      obtain ⟨vs, q, _⟩ := lst_of rh ea (.inl eo)
      exact .inl ⟨beq_iff_eq.mp ok, vs, hK ▸ q⟩
    | fro xs =>
      obtain ⟨vs, q, _⟩ := lst_of rh ea (.inr eo)
      exact .inl ⟨beq_iff_eq.mp ok, vs, hK ▸ q⟩
    | dic xs => cases ok
  | _ => cases ok
theorem de_meth (hK : R.K = X.K) (pa : PlainAttrs T) (slot : Slot T name mid) (hty : typeOf (.builtin mid) = pure (.type "method_descriptor")) (hm : MtD X R mid g) (ho : DE X R W o fo) (ha : DA X R W (e :: es) fa)
    (hbase : attributeBase o name X.env (eval o X.env) = eval o X.env := by rfl)
    (hfew : ((backTo cpos (starEach (e :: es) X.env)).all (fun x => !x.1) && (backToKw cpos (keywordEach [] X.env)).all (fun x => x.1.isSome)
      && decide ((e :: es).length + ([] : List Keyword).length + (if ([] : List Keyword).isEmpty then 0 else 1) < 30)) = true := by rfl)
    (hline : (apos.endLine == cpos.line) = true := by rfl) (hs : starEach (e :: es) X.env = (false, eval e X.env) :: starEach es X.env := by rfl) (hplain : (backTo cpos (starEach es X.env)).any (·.1) = false := by rfl) :
    DE X R W (.Call (.Attribute o name apos) (e :: es) [] cpos) (eMeth T g fo fa) := by
  have hU : MtR X mid (fun x xs H Q => ∃ r, MtM X mid r ∧ r x xs H Q) := fun pins s σ H x xs v us Q I rx rs ⟨r, h1, h2⟩ => h1 pins s σ H x xs v us Q I rx rs h2
  refine ⟨fun pins s σ H Q I h => (pe_bm (apos := apos) (cpos := cpos) pa slot hty hU ho ha hbase hfew hline hs hplain).run pins s σ H Q I ?_⟩
  obtain ⟨α, env, hp, re, rh, fi⟩ := h
  refine ⟨α, env, hp, re, rh, (Fin.split fi).imp fun v H1 hq => ?_⟩
  obtain ⟨x, α1, h1, _, x1, rh1, r1, f1⟩ := hq
  split at f1
  · rename_i ok
    refine ⟨recv_ty hK rh1 r1 ok, α1, env, h1, re.ext x1, rh1, (Fin.split f1).imp fun vs H2 hq => ?_⟩
    obtain ⟨ds, α2, h2, _, x2, rh2, r2, f2⟩ := hq
    exact hm _ _ _ _ _ _ _ _ _ _ rh2 (RelD.ext x2 _ _ r1) r2 f2
  · exact (show False from f1).elim
theorem de_meth0 (hK : R.K = X.K) (pa : PlainAttrs T) (slot : Slot T name mid) (hty : typeOf (.builtin mid) = pure (.type "method_descriptor")) (hm : MtD X R mid g) (ho : DE X R W o fo)
    (hbase : attributeBase o name X.env (eval o X.env) = eval o X.env := by rfl) (hline : (apos.endLine == cpos.line) = true := by rfl) : DE X R W (.Call (.Attribute o name apos) [] [] cpos) (eMeth T g fo aNil) := by
  have hU : MtR X mid (fun x xs H Q => ∃ r, MtM X mid r ∧ r x xs H Q) := fun pins s σ H x xs v us Q I rx rs ⟨r, h1, h2⟩ => h1 pins s σ H x xs v us Q I rx rs h2
  refine ⟨fun pins s σ H Q I h => (pe_bm0 (apos := apos) (cpos := cpos) pa slot hty hU ho hbase hline).run pins s σ H Q I ?_⟩
  obtain ⟨α, env, hp, re, rh, fi⟩ := h
  refine ⟨α, env, hp, re, rh, (Fin.split fi).imp fun v H1 hq => ?_⟩
  obtain ⟨x, α1, h1, _, x1, rh1, r1, f1⟩ := hq
  split at f1
  · rename_i ok
    exact ⟨recv_ty hK rh1 r1 ok, hm _ _ _ _ _ _ _ _ _ _ rh1 r1 .nil f1⟩
  · exact (show False from f1).elim
@[simp] def mAppend : Gm := fun x ds h => match x, ds with
  | .ref n, [d] => (match h[n]? with
    | some (.lst xs) => if xs.length < 16777216 then .ok .non (h.set n (.lst (xs ++ [d]))) else .no
    | _ => .no)
  | _, _ => .no
@[simp] def mExtend : Gm := fun x ds h => match x, ds with
  | .ref n, [.ref m] => (match h[n]?, h[m]? with
    | some (.lst xs), some (.lst ys) => if xs.length + ys.length ≤ 16777216 then .ok .non (h.set n (.lst (xs ++ ys))) else .no
    | _, _ => .no)
  | _, _ => .no
noncomputable def mPop : Gm := fun x ds h => match x, ds with
  | .ref n, [] => (match h[n]? with
    | some (.lst xs) => (match xs[xs.length - 1]? with
      | some d => .ok d (h.set n (.lst xs.dropLast))
      | none => .no)
    | _ => .no)
  | .ref n, [.int i] => (match h[n]? with
    | some (.lst xs) => if rngOk i = true then (match ixN xs.length i with
      | some k => (match xs[k]? with
        | some d => .ok d (h.set n (.lst (xs.eraseIdx k)))
        | none => .no)
      | none => .no) else .no
    | _ => .no)
  | _, _ => .no
theorem write_lst {α : List Addr} {H : Hp} {h : Hd} {n : Nat} {a : Addr} {vs ws : List V} {ys : List D} (rh : RH R α h H) (ea : α[n]? = some a) (q : H a = some (.lst vs)) (r : RelDs R α H ys ws) :
    Ext α H α (upd H a (.lst ws)) ∧ RH R α (h.set n (.lst ys)) (upd H a (.lst ws)) := by
  have x := Ext.write (α := α) (o := .lst ws) q trivial
  exact ⟨x, rh.write ea q trivial ⟨ws, upd_same, RelDs.ext x _ _ r⟩⟩
theorem md_append : MtD X R "list.append" mAppend := by
  intro x ds α h H v vs W σ Q rh rx rd f
  cases x with
  | ref n =>
    obtain ⟨a, ea, rfl⟩ := rx.ref_inv
    match ds, rd, f with
    | [], _, f => exact (show False from f).elim
    | _ :: _ :: _, _, f => exact (show False from f).elim
    | [d], rd, f =>
      unfold mAppend at f
      dsimp only at f
      obtain ⟨o, eo, ro⟩ := rh.at ea
      rw [eo] at f
      cases o with
      | lst xs =>
        obtain ⟨ws, q, r⟩ := ro
        obtain ⟨u, rfl, ru⟩ := rd.one
        dsimp only at f
        split at f
        · rename_i hl
          obtain ⟨x1, rh1⟩ := write_lst rh ea q (r.append (.cons ru .nil))
          exact ⟨_, mt_append, a, ws, u, rfl, rfl, q, by rw [← r.length, lineEq]; exact hl, f α _ _ x1 rh1 .non⟩
        · exact f.elim
      | _ => exact (show False from f).elim
  | _ => exact (show False from f).elim
theorem md_extend : MtD X R "list.extend" mExtend := by
  intro x ds α h H v vs W σ Q rh rx rd f
  cases x with
  | ref n =>
    obtain ⟨a, ea, rfl⟩ := rx.ref_inv
    match ds, rd, f with
    | [], _, f => exact (show False from f).elim
    | d :: _ :: _, _, f => cases d <;> exact (show False from f).elim
    | [d], rd, f =>
      cases d with
      | ref m =>
        unfold mExtend at f
        dsimp only at f
        obtain ⟨u, rfl, ru⟩ := rd.one
        obtain ⟨b, eb, rfl⟩ := ru.ref_inv
        obtain ⟨o, eo, ro⟩ := rh.at ea
        obtain ⟨o2, eo2, ro2⟩ := rh.at eb
        rw [eo, eo2] at f
        cases o with
        | lst xs =>
          cases o2 with
          | lst ys =>
            obtain ⟨ws, q, r⟩ := ro
            obtain ⟨zs, q2, r2⟩ := ro2
            dsimp only at f
            split at f
            · rename_i hl
              obtain ⟨x1, rh1⟩ := write_lst rh ea q (r.append r2)
              exact ⟨_, mt_extend, a, b, ws, zs, rfl, rfl, q, q2, by rw [← r.length, ← r2.length, lineEq]; exact hl, f α _ _ x1 rh1 .non⟩
            · exact f.elim
          | _ => exact (show False from f).elim
        | _ => exact (show False from f).elim
      | _ => exact (show False from f).elim
  | _ => exact (show False from f).elim
theorem RelDs.dropLast {α : List Addr} {H : Hp} : ∀ {xs : List D} {vs : List V}, RelDs R α H xs vs → RelDs R α H xs.dropLast vs.dropLast
  | [], _, r => by rw [r.nil_inv]; exact .nil
  | [x], _, r => by obtain ⟨v, rfl, _⟩ := r.one; exact .nil
  | x :: y :: t, _, r => by
    obtain ⟨v, r', rfl, h1, h2⟩ := r.cons_inv
    obtain ⟨v2, r2, rfl, h3, h4⟩ := h2.cons_inv
    exact .cons h1 (RelDs.dropLast (.cons h3 h4))
theorem md_pop : MtD X R "list.pop" mPop := by
  intro x ds α h H v vs W σ Q rh rx rd f
  cases x with
  | ref n =>
    obtain ⟨a, ea, rfl⟩ := rx.ref_inv
    match ds, rd, f with
    | d :: _ :: _, _, f => cases d <;> exact (show False from f).elim
    | [], rd, f =>
      unfold mPop at f
      dsimp only at f
      obtain ⟨o, eo, ro⟩ := rh.at ea
      rw [eo] at f
      cases o with
      | lst xs =>
        obtain ⟨ws, q, r⟩ := ro
        rw [rd.nil_inv]
        dsimp only at f
        cases e : xs[xs.length - 1]? with
        | none => rw [e] at f; exact f.elim
        | some d =>
          rw [e] at f
          obtain ⟨u, hu, ru⟩ := r.get e
          obtain ⟨x1, rh1⟩ := write_lst rh ea q r.dropLast
          exact ⟨_, mt_pop, a, ws, u, rfl, rfl, q, by rw [← r.length]; exact hu, f α _ _ x1 rh1 (RelD.ext x1 _ _ ru)⟩
      | _ => exact (show False from f).elim
    | [d], rd, f =>
      cases d with
      | int i =>
        unfold mPop at f
        dsimp only at f
        obtain ⟨o, eo, ro⟩ := rh.at ea
        rw [eo] at f
        cases o with
        | lst xs =>
          obtain ⟨ws, q, r⟩ := ro
          obtain ⟨u, rfl, ru⟩ := rd.one
          dsimp only at f
          split at f
          · rename_i hl0
            have hl := rngOk_of hl0
            have e62 : (2 : Int) ^ 62 = 4611686018427387904 := by decide
            rw [e62] at hl
            cases e0 : ixN xs.length i with
            | none => rw [e0] at f; exact f.elim
            | some k =>
              rw [e0] at f
              dsimp only at f
              cases e : xs[k]? with
              | none => rw [e] at f; exact f.elim
              | some d =>
                rw [e] at f
                obtain ⟨u2, hu, ru2⟩ := r.get e
                obtain ⟨x1, rh1⟩ := write_lst rh ea q (r.eraseIdx k)
                have e63 : (2 : Int) ^ 63 = 9223372036854775808 := by decide
                exact ⟨_, mt_popAt, a, ws, i, k, u2, rfl, by rw [ru.int_inv], q, by rw [e63]; omega, by rw [e63]; omega, by rw [← r.length]; exact (ixN_seq e0).1, hu, f α _ _ x1 rh1 (RelD.ext x1 _ _ ru2)⟩
          · exact f.elim
        | _ => exact (show False from f).elim
      | _ => exact (show False from f).elim
  | _ => exact (show False from f).elim
end
/-! ### o[i] = e -/
@[simp] def setAt (o i v : D) (h : Hd) : Option Hd := match o with
  | .ref n => (match h[n]? with
    | some (.lst xs) => (match i with
      | .int k => (match ixN xs.length k with
        | some j => some (h.set n (.lst (xs.set j v)))
        | none => none)
      | _ => none)
    | some (.dic kvs) => (match keyD i with
      | some ky => if kvs.length < 16777216 then some (h.set n (.dic (putD kvs ky v))) else none
      | none => none)
    | _ => none)
  | _ => none
@[simp] def sStore (fe fo fi : Fe) : Fs := sOf fe fun v => sOf fo fun o => sOf fi fun i env h => match setAt o i v h with
  | some h1 => .nx env h1
  | none => .no
section
variable {X : Cx} {R : Rx} {W : WX} {pos p' : Pos} {o i e : Expr} {fo fi fe : Fe}
theorem pset_or (hu : X.A.units + 1 < cLine) : PSet X (fun o i v H Q => rSetL o i v H Q ∨ rSetD o i v H Q) := fun pins s σ H o i v ov iv u Q I ro ri rv h => by
  rcases h with h | h
  · exact set_list pins s σ H o i v ov iv u Q I ro ri rv h
  · exact set_dict hu pins s σ H o i v ov iv u Q I ro ri rv h
theorem ds_store (hu : X.A.units + 1 < cLine) (he : DE X R W e fe) (ho : DE X R W o fo) (hi : DE X R W i fi) (hs : swapsWithSole [.Subscript o i p'] e pos.line X.env = pure false := by rfl) (hw : swappedStores [.Subscript o i p'] e X.env = pure none := by rfl)
    (h1 : (assignEach [.Subscript o i p'] X.env).map (·.2) = [assign (.Subscript o i p') X.env] := by rfl)
    (ha : ∀ v, assign (.Subscript o i p') X.env v = (do
      let ov ← holding [v] (eval o X.env)
      let iv ← holding [v, ov] (eval i X.env)
      standAt p'
      holding [v, ov, iv] (setItem ov iv v)
      release [v, ov, iv] []) := by intro _; rfl) : DS X R W (.Assign [.Subscript o i p'] e pos) (sStore fe fo fi) := by
  refine ⟨fun pins s σ H D I h => (ps_asg he (pg_sub ho hi (pset_or hu) ha) hs hw h1).run pins s σ H D I ?_⟩
  obtain ⟨α, env, hp, re, rh, f⟩ := h
  refine ⟨α, env, hp, re, rh, (finS_of re f).imp fun v H1 hq => ?_⟩
  obtain ⟨dv, α1, h1, _, x1, rh1, rv, f1⟩ := hq
  refine ⟨α1, env, h1, re.ext x1, rh1, (finS_of (re.ext x1) f1).imp fun ov H2 hq => ?_⟩
  obtain ⟨dov, α2, h2, _, x2, rh2, ro, f2⟩ := hq
  refine ⟨α2, env, h2, (re.ext x1).ext x2, rh2, (finS_of ((re.ext x1).ext x2) f2).imp fun iv H3 hq => ?_⟩
  obtain ⟨div, α3, h3, _, x3, rh3, ri, f3⟩ := hq
  have rv := RelD.ext (x2.trans x3) _ _ rv
  have ro := RelD.ext x3 _ _ ro
  have re3 := ((re.ext x1).ext x2).ext x3
  have f3 : FinS R W α3 H3 D (match setAt dov div dv h3 with
    | some h1 => .nx env h1
    | none => .no) := f3
  cases dov with
  | ref n =>
    obtain ⟨a, ea, rfl⟩ := ro.ref_inv
    unfold setAt at f3
    dsimp only at f3
    obtain ⟨ob, eo, rob⟩ := rh3.at ea
    rw [eo] at f3
    cases ob with
    | lst xs =>
      obtain ⟨ws, q, r⟩ := rob
      cases div with
      | int k =>
        dsimp only at f3
        cases e0 : ixN xs.length k with
        | none => rw [e0] at f3; exact f3.elim
        | some j =>
          rw [e0] at f3
          obtain ⟨x4, rh4⟩ := write_lst rh3 ea q (r.set j rv)
          exact .inl ⟨a, ws, k, j, rfl, ri.int_inv, q, by rw [← r.length]; exact e0, f3 _ _ _ x4 rh4 (re3.ext x4)⟩
      | _ => exact (show False from f3).elim
    | fro xs => exact (show False from f3).elim
    | dic kvs =>
      obtain ⟨ws, q, r⟩ := rob
      dsimp only at f3
      cases ek : keyD div with
      | none => rw [ek] at f3; exact f3.elim
      | some ky =>
        rw [ek] at f3
        dsimp only at f3
        by_cases hl : kvs.length < 16777216
        · rw [if_pos hl] at f3
          have x4 : Ext α3 H3 α3 (upd H3 a (.dK (putK ws ky v))) := Ext.write q trivial
          have rh4 : RH R α3 (h3.set n (.dic (putD kvs ky dv))) (upd H3 a (.dK (putK ws ky v))) := rh3.write ea q trivial ⟨_, upd_same, RelKs.ext x4 _ _ (r.put rv)⟩
          exact .inr ⟨a, _, rfl, .inl ⟨ws, ky, q, keyD_rel ek ri, by rw [← r.length, lineEq]; exact hl, rfl⟩, f3 _ _ _ x4 rh4 (re3.ext x4)⟩
        · rw [if_neg hl] at f3
          exact f3.elim
  | _ => exact (show False from f3).elim
/-! ### a, b = x, y between plain local names -/
@[simp] def sPar2 (i j : Nat) (fa : Fa) : Fs := fun env h => match fa env h with
  | .ok [x, y] h1 => if (decide (i < env.length) && decide (j < env.length)) = true then .nx ((env.set i (some x)).set j (some y)) h1 else .no
  | .ex e h1 => .ex e env h1
  | _ => .no
@[simp] def sPar3 (i j l : Nat) (fa : Fa) : Fs := fun env h => match fa env h with
  | .ok [x, y, z] h1 => if (decide (i < env.length) && decide (j < env.length) && decide (l < env.length)) = true then .nx (((env.set i (some x)).set j (some y)).set l (some z)) h1 else .no
  | .ex e h1 => .ex e env h1
  | _ => .no
theorem ds_par2 {a b : Expr} (i j : Nat) {x y : Str} {fa : Fa} {px py pt : Pos} {kt k2 pt2} (hc : X.calm = true) (hN : X.N.Nodup) (ha : DA X R W [a, b] fa) (hi : X.N[i]? = some x := by rfl) (hj : X.N[j]? = some y := by rfl) (hij : i ≠ j := by decide)
    (hx : X.env.scope.names.lookup x = some .local := by rfl) (hy : X.env.scope.names.lookup y = some .local := by rfl)
    (hw : swappedStores [.Tuple [.Name x px, .Name y py] kt pt] (.Tuple [a, b] k2 pt2) X.env = pure (some [x, y]) := by rfl)
    (hs : swapsWithSole [.Tuple [.Name x px, .Name y py] kt pt] (.Tuple [a, b] k2 pt2) pos.line X.env = pure false := by rfl) :
    DS X R W (.Assign [.Tuple [.Name x px, .Name y py] kt pt] (.Tuple [a, b] k2 pt2) pos) (sPar2 i j fa) := by
  refine ⟨fun pins s σ H D I h => (ps_par (pos := pos) hc hN hi hj hij hx hy ha hw hs).run pins s σ H D I ?_⟩
  obtain ⟨α, env, hp, re, rh, f⟩ := h
  refine ⟨α, env, hp, re, rh, ?_⟩
  unfold sPar2 at f
  cases er : fa env hp with
  | no => rw [er] at f; exact f
  | ex e h1 => rw [er] at f; exact fun α1 H1 cls dd x1 rh1 r1 => f α1 H1 σ cls dd x1 rh1 (re.ext x1) r1
  | ok ds h1 =>
    rw [er] at f
    match ds, f with
    | [], f => exact (show False from f).elim
    | [_], f => exact (show False from f).elim
    | _ :: _ :: _ :: _, f => exact (show False from f).elim
    | [d1, d2], f =>
      dsimp only at f
      by_cases hl : (decide (i < env.length) && decide (j < env.length)) = true
      · rw [if_pos hl] at f
        intro α1 H1 vs x1 rh1 r1
        obtain ⟨v1, v2, rfl, q1, q2⟩ := r1.two
        exact ⟨v1, v2, rfl, f α1 H1 _ x1 rh1 (((re.ext x1).set q1).set q2)⟩
      · rw [if_neg hl] at f; exact f.elim
theorem RelDs.three {α : List Addr} {H : Hp} {d d' d'' : D} {vs : List V} (h : RelDs R α H [d, d', d''] vs) : ∃ v v' v'', vs = [v, v', v''] ∧ RelD R α H d v ∧ RelD R α H d' v' ∧ RelD R α H d'' v'' := by
  obtain ⟨v, r, e, h1, t⟩ := h.cons_inv
  obtain ⟨v', v'', e', h2, h3⟩ := t.two
  rw [e'] at e
  exact ⟨v, v', v'', e, h1, h2, h3⟩
theorem ds_par3 {a b c : Expr} (i j l : Nat) {x y z : Str} {fa : Fa} {px py pz pt : Pos} {kt k2 pt2} (hc : X.calm = true) (hN : X.N.Nodup) (ha : DA X R W [a, b, c] fa) (hi : X.N[i]? = some x := by rfl) (hj : X.N[j]? = some y := by rfl) (hl : X.N[l]? = some z := by rfl) (hij : i ≠ j := by decide) (hil : i ≠ l := by decide) (hjl : j ≠ l := by decide)
    (hx : X.env.scope.names.lookup x = some .local := by rfl) (hy : X.env.scope.names.lookup y = some .local := by rfl) (hz : X.env.scope.names.lookup z = some .local := by rfl)
    (hw : swappedStores [.Tuple [.Name x px, .Name y py, .Name z pz] kt pt] (.Tuple [a, b, c] k2 pt2) X.env = pure (some [x, y, z]) := by rfl)
    (hs : swapsWithSole [.Tuple [.Name x px, .Name y py, .Name z pz] kt pt] (.Tuple [a, b, c] k2 pt2) pos.line X.env = pure false := by rfl) :
    DS X R W (.Assign [.Tuple [.Name x px, .Name y py, .Name z pz] kt pt] (.Tuple [a, b, c] k2 pt2) pos) (sPar3 i j l fa) := by
  refine ⟨fun pins s σ H D I h => (ps_par3 (pos := pos) hc hN hi hj hl hij hil hjl hx hy hz ha hw hs).run pins s σ H D I ?_⟩
  obtain ⟨α, env, hp, re, rh, f⟩ := h
  refine ⟨α, env, hp, re, rh, ?_⟩
  unfold sPar3 at f
  cases er : fa env hp with
  | no => rw [er] at f; exact f
  | ex e h1 => rw [er] at f; exact fun α1 H1 cls dd x1 rh1 r1 => f α1 H1 σ cls dd x1 rh1 (re.ext x1) r1
  | ok ds h1 =>
    rw [er] at f
    match ds, f with
    | [], f => exact (show False from f).elim
    | [_], f => exact (show False from f).elim
    | [_, _], f => exact (show False from f).elim
    | _ :: _ :: _ :: _ :: _, f => exact (show False from f).elim
    | [d1, d2, d3], f =>
      dsimp only at f
      by_cases hl : (decide (i < env.length) && decide (j < env.length) && decide (l < env.length)) = true
      · rw [if_pos hl] at f
        intro α1 H1 vs x1 rh1 r1
        obtain ⟨v1, v2, v3, rfl, q1, q2, q3⟩ := r1.three
        exact ⟨v1, v2, v3, rfl, f α1 H1 _ x1 rh1 ((((re.ext x1).set q1).set q2).set q3)⟩
      · rw [if_neg hl] at f; exact f.elim
end
/-! ### {k: v, ..} -/
def pairsD : List (Fe × Fe) → En → Hd → Res (List (Key × D))
  | [], _, h => .ok [] h
  | (k, v) :: r, env, h => (k env h).bind fun x h1 => (v env h1).bind fun y h2 => (pairsD r env h2).bind fun ps h3 => match keyD x with
    | some ky => .ok ((ky, y) :: ps) h3
    | none => .no
def mergeD (kvs more : List (Key × D)) : List (Key × D) := more.foldl (fun acc kv => putD acc kv.1 kv.2) kvs
def emptyDic : Option Ob → Bool
  | some (.dic []) => true
  | _ => false
def eDict (prs : List (Fe × Fe)) : Fe := fun env h => (pairsD prs env (h ++ [.dic []])).bind fun ps h1 => if (emptyDic h1[h.length]? && decide (ps.length ≤ 15)) = true then .ok (.ref h.length) (h1.set h.length (.dic (mergeD [] ps))) else .no
@[simp] def eDict0 : Fe := fun _ h => .ok (.ref h.length) (h ++ [.dic []])
section
variable {X : Cx} {R : Rx} {W : WX} {pos : Pos}
def trsD (R : Rx) (W : WX) (prs : List (Fe × Fe)) : List (TE × TE) := prs.map fun p => (tE R W p.1, tE R W p.2)
abbrev DPs (X : Cx) (R : Rx) (W : WX) (pos : Pos) (keys : List (Option Expr)) (values : List Expr) (prs : List (Fe × Fe)) : Prop := PPs X pos keys values (trsD R W prs)
theorem dps_nil : DPs X R W pos [] [] [] := pps_nil
theorem dps_cons {k v : Expr} {ks : List (Option Expr)} {vs : List Expr} {fk fv : Fe} {prs : List (Fe × Fe)} (hk : DE X R W k fk) (hv : DE X R W v fv) (hr : DPs X R W pos ks vs prs) : DPs X R W pos (some k :: ks) (v :: vs) ((fk, fv) :: prs) := pps_cons hk hv hr
def RelPs (R : Rx) (α : List Addr) (H : Hp) (ps : List (Key × D)) (vs : List (V × V)) : Prop := ∃ kvs, vs = kvs.map (fun kv => (kV kv.1, kv.2)) ∧ RelKs R α H ps kvs
theorem pairs_in : ∀ {prs : List (Fe × Fe)} {α : List Addr} {env : En} {h : Hd} {σ : St} {H : Hp} {Q : List (V × V) → Hp → Prop}, RelEnv R α H env σ → RH R α h H → Fin (RelPs R) R W α H σ (pairsD prs env h) Q → tPairs (trsD R W prs) σ H Q
  | [], α, env, h, σ, H, Q, re, rh, f => f α H [] .refl rh ⟨[], rfl, .nil⟩
  | (k, v) :: r, α, env, h, σ, H, Q, re, rh, f => by
    refine ⟨α, env, h, re, rh, (Fin.split f).imp fun x H1 hq => ?_⟩
    obtain ⟨dx, α1, h1, _, x1, rh1, r1, f1⟩ := hq
    refine ⟨α1, env, h1, re.ext x1, rh1, (Fin.split f1).imp fun y H2 hq => ?_⟩
    obtain ⟨dy, α2, h2, _, x2, rh2, r2, f2⟩ := hq
    refine pairs_in ((re.ext x1).ext x2) rh2 ((Fin.split f2).imp fun ps H3 hq => ?_)
    obtain ⟨dps, α3, h3, _, x3, rh3, ⟨kvs, rfl, r3⟩, f3⟩ := hq
    cases e : keyD dx with
    | none => rw [e] at f3; exact (show False from f3).elim
    | some ky =>
      rw [e] at f3
      refine f3 α3 H3 _ .refl rh3 ⟨(ky, y) :: kvs, ?_, .cons (RelD.ext x3 _ _ r2) r3⟩
      rw [List.map_cons, keyD_rel e r1]
theorem RelKs.merge {α : List Addr} {H : Hp} : ∀ {more : List (Key × D)} {ws : List (Key × V)} {kvs : List (Key × D)} {vs : List (Key × V)}, RelKs R α H more ws → RelKs R α H kvs vs → RelKs R α H (mergeD kvs more) (mergeK vs ws)
  | [], ws, kvs, vs, r, q => by rw [r.nil_inv]; exact q
  | (k, d) :: t, ws, kvs, vs, r, q => by
    obtain ⟨v, t', rfl, r1, r2⟩ := r.cons_inv
    show RelKs R α H (mergeD (putD kvs k d) t) (mergeK (putK vs k v) t')
    exact RelKs.merge r2 (q.put r1)
theorem de_dict {keys : List (Option Expr)} {values : List Expr} {prs : List (Fe × Fe)} (h : DPs X R W pos keys values prs) (h0 : keys ≠ [] := by simp) (hall : keys.all (·.isSome) = true := by rfl) (hl : keys.length = values.length := by rfl) (h15 : keys.length ≤ 15 := by decide) :
    DE X R W (.Dict keys values pos) (eDict prs) := by
  refine ⟨fun pins s σ H Q I q => (pe_disp (pos := pos) h hall hl h0 h15).run pins s σ H Q I fun p hp => ?_⟩
  obtain ⟨α, env, hd, re, rh, fi⟩ := q
  have x0 : Ext α H (α ++ [p]) (upd H p (.dK [])) := Ext.new hp
  have rh0 : RH R (α ++ [p]) (hd ++ [.dic []]) (upd H p (.dK [])) := rh.new hp ⟨[], upd_same, .nil⟩
  have ep : (α ++ [p])[hd.length]? = some p := rh.new_at
  refine pairs_in (re.ext x0) rh0 ((Fin.split (Fin.mono (r := (pairsD prs env (hd ++ [.dic []])).bind fun ps h1 => if (emptyDic h1[hd.length]? && decide (ps.length ≤ 15)) = true then Res.ok (D.ref hd.length) (h1.set hd.length (.dic (mergeD [] ps))) else .no) fi x0)).imp fun ps H1 hq => ?_)
  obtain ⟨dps, α1, h1, _, x1, rh1, ⟨kvs, rfl, r1⟩, f1⟩ := hq
  split at f1
  · rename_i hk
    rw [Bool.and_eq_true, decide_eq_true_eq] at hk
    obtain ⟨k1, k2⟩ := hk
    obtain ⟨ob, eo, ro⟩ := rh1.at (x1.get ep)
    rw [eo] at k1
    have e0 : ob = .dic [] := by
      cases ob with
      | dic l => cases l with
        | nil => rfl
        | cons _ _ => cases k1
      | _ => cases k1
    subst e0
    obtain ⟨ws, q, r0⟩ := ro
    rw [r0.nil_inv] at q
    refine ⟨q, kvs, rfl, by rw [← r1.length]; exact k2, ?_⟩
    have x2 : Ext α1 H1 α1 (upd H1 p (.dK (mergeK [] kvs))) := Ext.write q trivial
    have rh2 : RH R α1 (h1.set hd.length (.dic (mergeD [] dps))) (upd H1 p (.dK (mergeK [] kvs))) := rh1.write (x1.get ep) q trivial ⟨_, upd_same, RelKs.ext x2 _ _ (r1.merge .nil)⟩
    exact f1 α1 _ _ x2 rh2 (.ref (x1.get ep))
  · exact (show False from f1).elim
theorem de_dict0 : DE X R W (.Dict [] [] pos) eDict0 := by
  refine ⟨fun pins s σ H Q I q => (pe_dnewK (pos := pos)).run pins s σ H Q I fun p hp => ?_⟩
  obtain ⟨α, env, hd, re, rh, fi⟩ := q
  exact fi _ _ _ (Ext.new hp) (rh.new hp ⟨[], upd_same, .nil⟩) (.ref rh.new_at)
end
/-! ### a call of a local that holds a def -/
abbrev Tb := List (Str × (List D → Hd → Res D))
@[simp] def eCallV (i : Nat) (L : Tb) (fa : Fa) : Fe := fun env h => match env[i]? with
  | some (some (.gl x)) => (match L.lookup x with
    | some F => (fa env h).bind F
    | none => .no)
  | _ => .no
def Deeds (X : Cx) (n : Nat) (L : Tb) : Prop := ∀ x F, L.lookup x = some F → ∃ (d : He.DefD) (ps : List Str) (k : Nat) (F0 : List D → Hd → Res D) (gD : List D → List D), FDx X.prog X.w X.K X.mg X.base d ps k F0 ∧ RoomG k X.A ∧ X.mg x = some (.ref (He.fAd X.K d.at_)) ∧
  (∀ fd, FunD X.K d.name d.qual d.params d.body d.scope (d.dvs X.K) (d.kws X.K) (He.fAd X.K d.at_) fd → Bnd X.K fd ps n [] (fun ds _ => gD ds)) ∧ F = fun ds => F0 (gD ds)
section
variable {X : Cx} {W : WX} {pos p : Pos} {x : Str} {e : Expr} {es : List Expr} {fa : Fa} {L : Tb}
theorem deeds_nil {n : Nat} : Deeds X n [] := fun _ _ h => by cases h
theorem deeds_cons {n : Nat} {d : He.DefD} {ps : List Str} {k : Nat} {F0 : List D → Hd → Res D} {gD : List D → List D} (y : Str) (h1 : FDx X.prog X.w X.K X.mg X.base d ps k F0) (h2 : RoomG k X.A) (h3 : X.mg y = some (.ref (He.fAd X.K d.at_)))
    (h4 : ∀ fd, FunD X.K d.name d.qual d.params d.body d.scope (d.dvs X.K) (d.kws X.K) (He.fAd X.K d.at_) fd → Bnd X.K fd ps n [] (fun ds _ => gD ds)) (t : Deeds X n L) : Deeds X n ((y, fun ds => F0 (gD ds)) :: L) := by
  intro z F h
  rw [List.lookup_cons] at h
  by_cases e : z = y
  · subst e
    rw [beq_self_eq_true] at h
    cases h
    exact ⟨d, ps, k, F0, gD, h1, h2, h3, h4, rfl⟩
  · have : (z == y) = false := by simpa using e
    rw [this] at h
    exact t z F h
theorem de_callV (i : Nat) (hD : Deeds X (e :: es).length L) (tk : Takes X W) (ha : DA X (rx X.K X.mg) W (e :: es) fa) (hlen : ∀ env h ds h1, fa env h = .ok ds h1 → ds.length = (e :: es).length) (hN : X.N[i]? = some x := by rfl)
    (hv : Vis X.env.scope x := by first | exact Or.inl rfl | exact Or.inr (Or.inl rfl) | exact Or.inr (Or.inr rfl))
    (hdb : (x == ("__debug__" : Str)) = false := by decide) (hcd : (x == ("__classdict__" : Str)) = false := by decide) (he : starEach (e :: es) X.env = (false, eval e X.env) :: starEach es X.env := by rfl) (hpl : (backTo pos (starEach es X.env)).any (·.1) = false := by rfl) :
    DE X (rx X.K X.mg) W (.Call (.Name x p) (e :: es) [] pos) (eCallV i L fa) := by
  refine ⟨fun pins s σ H Q I h => ?_⟩
  obtain ⟨α, env, hp, re, rh, fi⟩ := h
  have fi : FinE (rx X.K X.mg) W α H σ (match env[i]? with
    | some (some (.gl x)) => (match L.lookup x with
      | some F => (fa env hp).bind F
      | none => .no)
    | _ => .no) Q := fi
  cases e1 : env[i]? with
  | none => rw [e1] at fi; exact fi.elim
  | some od =>
    rw [e1] at fi
    cases od with
    | none => exact (show False from fi).elim
    | some d =>
      cases d with
      | gl y =>
        dsimp only at fi
        cases e2 : L.lookup y with
        | none => rw [e2] at fi; exact (show False from fi).elim
        | some F =>
          rw [e2] at fi
          obtain ⟨d, ps, k, F0, gD, hF, hr, hm, hb, rfl⟩ := hD y F e2
          obtain ⟨v, h1, h2⟩ := re.2 i _ e1
          obtain ⟨a, g1, rfl⟩ := h2.gl_inv
          have g1 : X.mg y = some (.ref a) := g1
          rw [hm] at g1
          cases g1
          obtain ⟨fd, FD, Fk⟩ := hF.ex
          refine wpAny_Call_Name_kw (thn ((pe_var (pos := p) hN hv hdb hcd).run pins s σ H (fun v H1 => v = .ref (He.fAd X.K d.at_) ∧ H1 = H) I ⟨.ref _, h1, rfl, rfl⟩) fun u s1 ⟨v, H1, I1, r1, q1⟩ => ?_)
          obtain ⟨rfl, rfl⟩ := q1
          cases r1
          refine PySem.W.callWith_K (h₀ := X.base) I.ok.mod.kin FD.kp (thn (ha.run pos pins s1 σ _ _ I1 ⟨α, env, hp, re, rh, Fin.split (g := fun ds => F0 (gD ds)) fi⟩) fun us s2 ⟨vs, H2, I2, r, q⟩ => ⟨I2.kIn, ?_⟩) he hpl
          obtain ⟨ds, α1, h1', e1', x1, rh1, rd1, f1⟩ := q
          exact run_fd (ws := []) (zs := []) (dz := []) (gD := fun ds _ => gD ds) Fk hr (hb fd FD) tk I2 r .nil (rd1.length.symm.trans (hlen _ _ _ _ e1')) rfl rd1 .nil rh1 f1
      | _ => exact (show False from fi).elim
end
end Mi

set_option Elab.async false
set_option linter.all false
set_option maxRecDepth 100000
set_option maxHeartbeats 1000000
namespace Mi
open PySem PySem.Spec PyProof.Rows L2
/-! ### small things -/
theorem RoomG.u64 {k : Nat} {A : Around} (r : RoomG k A) : A.units + 64 < cLine := by have := r.rm.un; omega
theorem RoomG.u65 {k : Nat} {A : Around} (r : RoomG k A) : A.units + 65 < cLine := by have := r.rm.un; omega
theorem RoomG.u1 {k : Nat} {A : Around} (r : RoomG k A) : A.units + 1 < cLine := by have := r.rm.un; omega
theorem RoomG.u0 {k : Nat} {A : Around} (r : RoomG k A) : A.units < cLine := by have := r.rm.un; omega
theorem takes_W0 {X : Cx} : Takes X W0 := fun _ _ ⟨_, _, _, _, _, _, _, _, _, _, _, _, _, _, _, _, w⟩ => w.elim
theorem al_nil : ∀ (env : En) (h : Hd) (ds : List D) (h1 : Hd), aNil env h = .ok ds h1 → ds.length = 0 := fun _ _ _ _ e => by
  unfold aNil at e
  cases e
  rfl
theorem al_cons {f : Fe} {g : Fa} {n : Nat} (t : ∀ (env : En) (h : Hd) (ds : List D) (h1 : Hd), g env h = .ok ds h1 → ds.length = n) : ∀ (env : En) (h : Hd) (ds : List D) (h1 : Hd), aCons f g env h = .ok ds h1 → ds.length = n + 1 := fun env h ds h1 e => by
  unfold aCons at e
  cases e1 : f env h with
  | no => rw [e1] at e; cases e
  | ex x h2 => rw [e1] at e; cases e
  | ok x h2 =>
    rw [e1] at e
    have e : (g env h2).bind (fun xs h2 => .ok (x :: xs) h2) = .ok ds h1 := e
    cases e2 : g env h2 with
    | no => rw [e2] at e; cases e
    | ex x h3 => rw [e2] at e; cases e
    | ok xs h3 =>
      rw [e2] at e
      cases e
      rw [List.length_cons, t _ _ _ _ e2]
/-! ### how arguments come to parameters -/
def gI (ix : List Nat) {A : Type} (us ws : List A) : List A := ix.filterMap fun i => (us ++ ws)[i]?
theorem gI_len {A : Type} {us ws : List A} : ∀ {ix : List Nat}, (∀ i ∈ ix, i < us.length + ws.length) → (gI ix us ws).length = ix.length
  | [], _ => rfl
  | i :: r, h => by
    have hi : i < (us ++ ws).length := by rw [List.length_append]; exact h i (List.mem_cons_self ..)
    have := gI_len (us := us) (ws := ws) (ix := r) fun j hj => h j (List.mem_cons_of_mem _ hj)
    unfold gI at this ⊢
    rw [List.filterMap_cons, List.getElem?_eq_getElem hi]
    show _ + 1 = _ + 1
    rw [this]
theorem gI_vals {us ws : List Value} {vs zs : List V} (r : Vals vs us) (q : Vals zs ws) : ∀ ix : List Nat, Vals (gI ix vs zs) (gI ix us ws)
  | [] => .nil
  | i :: t => by
    have ih := gI_vals r q t
    have ra := r.append q
    unfold gI at ih ⊢
    rw [List.filterMap_cons, List.filterMap_cons]
    cases e : (vs ++ zs)[i]? with
    | none =>
      have : (us ++ ws)[i]? = none := by
        rw [List.getElem?_eq_none_iff, ← ra.length]
        exact List.getElem?_eq_none_iff.mp e
      rw [this]
      exact ih
    | some v =>
      obtain ⟨u, hu, ru⟩ := ra.get e
      rw [hu]
      exact .cons ru ih
theorem gI_rel {R : Rx} {α : List Addr} {H : Hp} {ds dz : List D} {vs zs : List V} (r : RelDs R α H ds vs) (q : RelDs R α H dz zs) : ∀ ix : List Nat, RelDs R α H (gI ix ds dz) (gI ix vs zs)
  | [] => .nil
  | i :: t => by
    have ih := gI_rel r q t
    have ra := r.append q
    unfold gI at ih ⊢
    rw [List.filterMap_cons, List.filterMap_cons]
    cases e : (ds ++ dz)[i]? with
    | none =>
      have : (vs ++ zs)[i]? = none := by
        rw [List.getElem?_eq_none_iff, ← ra.length]
        exact List.getElem?_eq_none_iff.mp e
      rw [this]
      exact ih
    | some v =>
      obtain ⟨u, hu, ru⟩ := ra.get e
      rw [hu]
      exact .cons ru ih
section
variable {K : PySem.W.Frag} {x qual : Str} {params : Arguments} {body : List Stmt} {scope : Scope} {kws : List (Str × V)} {f : Addr} {fd : FuncData} {ps : List Str}
theorem bnd_pos {dvs : List V} (F : FunD K x qual params body scope dvs kws f fd) (hd : dvs = []) 
    (h : ∀ (kV doc pm : Value) (an : Option Addr) (cdv ct : Value) (us : List Value), us.length = ps.length → bindArgs (PySem.W.fnOf x qual params body scope .none kV doc pm an cdv ct) ⟨us, []⟩ = pure (ps.zip us)) (n : Nat) (hn : n = ps.length) : Bnd K fd ps n [] (fun ds _ => ds) := by
  subst hd hn
  have b := F.bindsN h
  refine ⟨fun us _ => us, fun vs _ => vs, ⟨fun s us ws X l1 l2 => ?_, fun r _ => r⟩, fun vs zs l1 _ => l1, fun R α H ds vs ws zs r _ => r⟩
  have := b s us X (by rw [List.append_nil]; exact l1)
  rw [List.append_nil] at this
  exact this
theorem bnd_kw {dvs : List V} (F : FunD K x qual params body scope dvs kws f fd) (hd : dvs = []) (n : Nat) (ks : List Str) (ix : List Nat) (hl : ix.length = ps.length) (hi : ∀ i ∈ ix, i < n + ks.length)
    (h : ∀ (kV doc pm : Value) (an : Option Addr) (cdv ct : Value) (us ws : List Value), us.length = n → ws.length = ks.length → bindArgs (PySem.W.fnOf x qual params body scope .none kV doc pm an cdv ct) ⟨us, ks.zip ws⟩ = pure (ps.zip (gI ix us ws))) : Bnd K fd ps n ks (fun ds ws => gI ix ds ws) := by
  subst hd
  obtain ⟨oc, od, dV, kV, doc, pm, an, cdv, ct, osl, rfl, lk, hcd, hD, hK⟩ := F.ex
  rcases hD with ⟨_, rfl⟩ | ⟨e, _⟩
  · refine ⟨fun us ws => gI ix us ws, fun vs zs => gI ix vs zs, ⟨fun s us ws X l1 l2 => .of_eq (h kV doc pm an cdv ct us ws l1 l2), fun r q => gI_vals r q ix⟩, fun vs zs l1 l2 => ?_, fun R α H ds vs ws zs r q => gI_rel r q ix⟩
    rw [gI_len (fun i hx => by rw [l1, l2]; exact hi i hx), hl]
  · exact absurd rfl e
end
/-! ### the end -/
theorem law_callG {P : Program} {w : World} {K : PySem.W.Frag} {mg mb : Str → Option Value} {CX : CXT} {k : Nat} {fa a : Addr} {fd : FuncData} {x : Str} {sp : Sp} {s₁ : Shared} {vs : List Value} {ns : List Int}
    (KX : K.In s₁.heap) (hns : s₁.heap.Ns mainGlobals mg) (hb : s₁.heap.Ns builtinsNs mb) (hbb : ∀ x : Str, x ≠ "__name__" → mb x = bootBuiltins x) (hlim : s₁.heap.NoLimit) (hg : s₁.gens = #[])
    (ha : s₁.heap.get? a = some { cls := .type "list", data := .seq vs.toArray }) (hi : IntsAre vs ns) (hl : ns.length ≤ sizeLine) (hr : RoomG k callerA)
    (F : ∀ base : Heap, K.In base → base.Ns mainGlobals mg → FnG P w K mg base CX k fa fd [x] sp) (hbind : ∀ (s : Shared) (u : Value), BindsTo s fd ⟨[u], []⟩ [(x, u)])
    (hsp : ∀ H : Hp, Only H → (∃ ob, H a = some (.frz ob (.lst (ns.map V.int)))) ∨ K.lookup a ≠ none → SqL K H a (ns.map V.int) → sp [.ref a] H (fun v _ => v = .bl true) fun _ _ _ => False) (hKa : K.lookup a = none ∨ True)
    (hCX : ∀ H e s', CX [] H s₁ (fun _ _ _ => False) e s' → False) :
    codeAny (model P w) callerA (.call (.ref fa) ⟨[.ref a], []⟩) (fun r s' => r = .ok (.ret (.bool true)) ∧ OldK s₁.heap s'.heap ∧ s'.os = s₁.os ∧ AllBare s'.gens) s₁ := by
  have rv := vals_ints hi
  have lenV := hi.length
  have core : ∀ H : Hp, Only H → (∃ ob, H a = some (.frz ob (.lst (ns.map V.int)))) ∨ K.lookup a ≠ none → SqL K H a (ns.map V.int) → HOk P w H s₁.heap → (∀ b, H b ≠ none → b = a) → (H a ≠ none → K.lookup a = none) →
      codeAny (model P w) callerA (.call (.ref fa) ⟨[.ref a], []⟩) (fun r s' => r = .ok (.ret (.bool true)) ∧ OldK s₁.heap s'.heap ∧ s'.os = s₁.os ∧ AllBare s'.gens) s₁ := by
    intro H hO hz hS hok hA hK
    have base_of : ∀ {b : Addr} {o : Obj}, s₁.heap.get? b = some o → H b = none → (hidT s₁.heap H).get? b = some o := fun e n => hidT_get e n
    have noA : ∀ {b : Addr} {o : Obj} {es : Array DictEntry} {ep : Nat}, s₁.heap.get? b = some o → o.data = .dict es ep → H b = none := fun {b o es ep} e d => by
      cases q : H b with
      | none => rfl
      | some u =>
        have e' : b = a := hA b (by rw [q]; simp)
        subst e'
        rw [ha] at e; cases e
        have d' : Data.seq vs.toArray _ = Data.dict es ep := d
        cases d'
    have nsK : ∀ {b : Addr} {m : Str → Option Value}, s₁.heap.Ns b m → (hidT s₁.heap H).Ns b m := fun {b m} ⟨o, es, ep, e, d, r⟩ => ⟨o, es, ep, base_of e (noA e d), d, r⟩
    have hKb : K.In (hidT s₁.heap H) := fun b o e => base_of (KX b o e) (by
      cases q : H b with
      | none => rfl
      | some u =>
        have e' : b = a := hA b (by rw [q]; simp)
        subst e'
        rw [hK (by rw [q]; simp)] at e; cases e)
    have hM : Mod K mg (hidT s₁.heap H) := ⟨hKb, nsK hns, ⟨mb, nsK hb, hbb⟩, let ⟨mc, h1, h2⟩ := hlim; ⟨mc, nsK h1, h2⟩⟩
    have e0 : Env0 P w K mg (hidT s₁.heap H) callerA [] s₁ H := ⟨rfl, hM, fun b o e => of_hidT e, Nat.le_of_eq (hidT_size _ _), trivial, fun b hb => absurd (show b ∈ ([] : List Addr) from hb) (by simp), hok, .of_eq hg⟩
    refine codeAny_mono ((F _ hKb (nsK hns)).run callerA [] s₁ H ⟨[.ref a], []⟩ [.ref a] [.ref a] _ _ hr e0 (hbind s₁ (.ref a)) (.cons rfl .nil) (hsp H hO hz hS)) fun r s' h => ?_
    cases r with
    | error e => exact (hCX H e s' h).elim
    | ok fl =>
      cases fl with
      | next => exact False.elim h
      | brk => exact False.elim h
      | cont => exact False.elim h
      | ret u =>
        obtain ⟨v, H', os, bare, un, hok', r', q⟩ := h
        have q' : v = .bl true := q
        subst q'
        obtain rfl : u = Value.bool true := r'
        refine ⟨rfl, OldK.of_keep fun b o e => ?_, os, bare⟩
        cases q : H b with
        | none => exact un.keep b o e q (by intro z; exact absurd (show b ∈ ([] : List Addr) from z) (by simp)) (by simp)
        | some u =>
          rcases hO b with z | ⟨ob, xs, z⟩
          · rw [q] at z; cases z
          · have z2 := un.frzs b ob _ z
            obtain ⟨e1, _⟩ := hok b _ z
            obtain ⟨e2, _⟩ := hok' b _ z2
            rw [e] at e1; cases e1
            exact e2
  cases hk : K.lookup a with
  | some o =>
    have e := KX a o hk
    rw [ha] at e
    cases e
    refine core (fun _ => none) (fun _ => .inl rfl) (.inr (by rw [hk]; exact fun z => nomatch z)) (.inr ⟨_, vs.toArray, _, hk, rfl, rfl, rfl, by rw [List.size_toArray, lenV]; exact hl, by simpa using rv⟩) (fun b u z => by have z' : (none : Option HO) = some u := z; cases z') (fun b z => absurd rfl z) fun z => absurd rfl z
  | none =>
    refine core (fun b => if b = a then some (.frz { cls := .type "list", data := .seq vs.toArray } (.lst (ns.map V.int))) else none) (fun b => ?_) (.inl ⟨{ cls := .type "list", data := .seq vs.toArray }, if_pos rfl⟩) (.inl (.inr ⟨{ cls := .type "list", data := .seq vs.toArray }, if_pos rfl⟩)) (fun b u z => ?_) (fun b z => ?_) fun _ => hk
    · by_cases hb : b = a
      · exact .inr ⟨_, _, if_pos hb⟩
      · exact .inl (if_neg hb)
    · by_cases hb : b = a
      · have z' := (if_pos hb).symm.trans z
        cases z'
        subst hb
        exact ⟨ha, by rw [List.length_map]; exact hl, vs, _, rv, ha⟩
      · have z' := (if_neg hb).symm.trans z
        cases z'
    · by_cases hb : b = a
      · exact hb
      · exact absurd (if_neg hb) z
end Mi

set_option Elab.async false
set_option linter.all false
set_option maxRecDepth 100000
set_option maxHeartbeats 1000000
namespace Mi
open PySem PySem.Spec PyProof.Rows L2
open PySem.W (Frag)
/-! ### the hook -/
def isLst (o : Obj) : Bool := match o.cls with
  | .type n => n == "list"
  | _ => false
def asM (g : Addr → Option Obj) : Nat → List Addr
  | 0 => [mainGlobals, cStatics]
  | n + 1 => He.growD g (asM g n)
def frM (g : Addr → Option Obj) (n : Nat) : Frag := (He.frG g (asM g n)).filter fun p => !(isLst p.2)
theorem frG_mem {g : Addr → Option Obj} {p : Addr × Obj} {as : List Addr} (h : p ∈ He.frG g as) : g p.1 = some p.2 := by
  unfold He.frG at h
  obtain ⟨a, _, e⟩ := List.mem_filterMap.mp h
  obtain ⟨o, e1, e2⟩ := Option.map_eq_some_iff.mp e
  subst e2
  exact e1
theorem lookup_mem {α β : Type} [BEq α] [LawfulBEq α] {a : α} {b : β} : ∀ {l : List (α × β)}, l.lookup a = some b → (a, b) ∈ l
  | [], h => by cases h
  | (c, d) :: l, h => by
    rw [List.lookup_cons] at h
    by_cases e : (a == c) = true
    · rw [e] at h
      cases h
      rw [eq_of_beq e]
      exact List.mem_cons_self ..
    · rw [Bool.not_eq_true] at e
      rw [e] at h
      exact List.mem_cons_of_mem _ (lookup_mem h)
theorem frM_in {h : Heap} {n : Nat} : (frM h.get? n).In h := fun a o e => by
  have := lookup_mem e
  unfold frM at this
  exact frG_mem (p := (a, o)) (List.mem_filter.mp this).1
theorem frM_no {g : Addr → Option Obj} {n : Nat} {p : Addr × Obj} (h : p ∈ frM g n) : isLst p.2 = false := by
  unfold frM at h
  simpa using (List.mem_filter.mp h).2
def obsK (fs : List (Frag → Bool)) (fn : List He.DefD) (K : Frag) : He.AlD := ((fs.all fun f => f K) && fn.all fun d => d.ok K, fn.map fun d => He.fnW K d.at_)
def obsM (n : Nat) (fs : List (Frag → Bool)) (fn : List He.DefD) (g : Addr → Option Obj) : He.AlD := obsK fs fn (frM g n)
def hookM (n : Nat) (fs : List (Frag → Bool)) (fn : List He.DefD) : PySem.W.Hook where
  α := He.AlD
  obs := fun s => obsM n fs fn s.heap.get?
  val := fun _ => He.valD fn
  says := fun _ h => ∃ K : Frag, K.In h ∧ (∀ p ∈ K, isLst p.2 = false) ∧ obsK fs fn K = He.valD fn
  of := fun _ _ e => ⟨_, frM_in, fun _ h => frM_no h, e⟩
  keeps := fun _ _ _ ⟨K, hK, hn, c⟩ k => ⟨K, PySem.W.Frag.In.keeps hK k, hn, c⟩
theorem obsM_eq {n : Nat} {fs : List (Frag → Bool)} {fn : List He.DefD} {g : Addr → Option Obj} {s : Shared} (h : ∀ a, g a = s.heap.get? a) : obsM n fs fn g = (hookM n fs fn).obs s := by
  have e : g = s.heap.get? := funext h
  rw [e] <;> rfl
section
variable {fs : List (Frag → Bool)} {fn : List He.DefD} {K : Frag}
theorem saysD (c : obsK fs fn K = He.valD fn) : He.SaysD [] fn K := by
  have c1 : ((fs.all fun f => f K) && fn.all fun d => d.ok K) = true := congrArg (fun z : He.AlD => z.1) c
  have c2 : fn.map (fun d => He.fnW K d.at_) = fn.map He.DefD.val := congrArg (fun z : He.AlD => z.2) c
  show (((([] : List He.Fa).all fun f => f.ok K) && fn.all fun d => d.ok K), fn.map fun d => He.fnW K d.at_) = (true, fn.map He.DefD.val)
  rw [c2, (He.ba c1).2]
  rfl
theorem fact (c : obsK fs fn K = He.valD fn) (i : Nat) {f : Frag → Bool} (h : fs[i]? = some f := by rfl) : f K = true := by
  have c1 : ((fs.all fun f => f K) && fn.all fun d => d.ok K) = true := congrArg (fun z : He.AlD => z.1) c
  exact List.all_eq_true.mp (He.ba c1).1 f (List.mem_of_getElem? h)
theorem def_ (c : obsK fs fn K = He.valD fn) (i : Nat) {d : He.DefD} (h : fn[i]? = some d := by rfl) : ∃ fd, FunD K d.name d.qual d.params d.body d.scope (d.dvs K) (d.kws K) (He.fAd K d.at_) fd := (saysD c).def_ i h
end
/-! ### an own exception class, by facts -/
def valB (initId : String) : Option PySem.W.CFound → Bool
  | some (.val (.builtin s)) => s == initId
  | _ => false
/-- own: the base as the text names it is an own class -/
def baseB (K : Frag) (own : Bool) (b : Str) (T initId : String) : Bool :=
  if own = true then He.eqO (PySem.W.nsIn K mainGlobals b) (some (some (.ref (He.ga K b)))) && (He.eqO (PySem.W.specialIn K (.ref (He.ga K b)) "__getattribute__") (some (some (.builtin "type.__getattribute__"))) && (PySem.W.readsIn K (He.ga K b) (.type "type") && valB initId (PySem.W.findCls K (.ref (He.ga K b)) (.type "type") "__init__")))
  else He.eqO (PySem.W.nsIn K mainGlobals b) (some none) && valB initId (PySem.W.findCls K (.type T) (.type "type") "__init__")
def xcB (c f b : Str) (own : Bool) (T newId initId : String) (bm : List Value) (K : Frag) : Bool :=
  He.eqO (PySem.W.nsIn K mainGlobals c) (some (some (.ref (He.ga K c)))) && (PySem.W.excInitIn K (He.ga K c) bm newId && (PySem.W.hasDictIn K (He.ga K c) && (He.eqO (PySem.W.findIn K (.ref (He.ga K c)) "__setattr__") (some (some (.builtin "object.__setattr__"))) &&
  (He.eqO (PySem.W.findIn K (.ref (He.ga K c)) "__getattribute__") (some (some (.builtin "BaseException.__getattribute__"))) && (He.eqO (PySem.W.findIn K (.ref (He.ga K c)) "__getattr__") (some none) && (He.eqO (PySem.W.findIn K (.ref (He.ga K c)) f) (some none) &&
  (He.eqO (PySem.W.findIn K (.ref (He.ga K c)) "__init__") (some (some (.ref (He.ma K (He.ga K c) "__init__")))) && (decide (PySem.W.typeIn K (.ref (He.ma K (He.ga K c) "__init__")) = some (.type "function")) && (PySem.W.keepIn K (.ref (He.ga K c)) &&
  (decide (PySem.W.subIn K (.ref (He.ga K c)) (.type "BaseException") = some true) && (decide (PySem.W.typeIn K (.ref (He.ga K c)) = some (.type "type")) && baseB K own b T initId)))))))))))
theorem valB_ok {initId : String} {o : Option PySem.W.CFound} (h : valB initId o = true) : o = some (.val (.builtin initId)) := by
  unfold valB at h
  split at h
  · rw [beq_iff_eq] at h; rw [h]
  · cases h
theorem base_ok {K : Frag} {h : Heap} {mg : Str → Option Value} (X : K.In h) (G : h.Ns mainGlobals mg) {own : Bool} {b : Str} {T initId : String} (hb : baseB K own b T initId = true) (hT : own = false → bootBuiltins b = some (.type T) ∧ b ≠ "__name__" ∧ typeOf (.type T) = pure (.type "type") ∧ Manifest.isStub T = false) : MiX.BaseOk K mg b initId := by
  unfold baseB at hb
  cases own with
  | true =>
    rw [if_pos rfl] at hb
    obtain ⟨h1, hb⟩ := He.ba hb
    obtain ⟨h2, hb⟩ := He.ba hb
    obtain ⟨h3, h4⟩ := He.ba hb
    exact .inl ⟨_, PySem.W.mg_of X G (He.eqO_ok h1), He.eqO_ok h2, h3, valB_ok h4⟩
  | false =>
    rw [if_neg (by decide)] at hb
    obtain ⟨h1, h2⟩ := He.ba hb
    obtain ⟨t1, t2, t3, t4⟩ := hT rfl
    exact .inr ⟨T, PySem.W.mg_none_of X G (He.eqO_ok h1), t1, t2, t3, t4, valB_ok h2⟩
theorem xc_ok {K : Frag} {h : Heap} {mg : Str → Option Value} (X : K.In h) (G : h.Ns mainGlobals mg) {c f b : Str} {own : Bool} {T newId initId : String} {bm : List Value} (q : xcB c f b own T newId initId bm K = true)
    (hT : own = false → bootBuiltins b = some (.type T) ∧ b ≠ "__name__" ∧ typeOf (.type T) = pure (.type "type") ∧ Manifest.isStub T = false)
    (d1 : (f == ("__debug__" : Str)) = false) (d2 : f ≠ "self") (d3 : (b == ("__debug__" : Str)) = false) (d4 : b ≠ "self") (d5 : b ≠ f)
    {qual msg : Str} {dfl : List Expr} {j : Nat} {p1 p2 q1 q2 q3 q4 q5 q6 r1 r2 r3 r4 : Pos} {dvs : List V} (FD : ∃ fd, FunD K "__init__" qual (MiX.iA f dfl p1 p2) (MiX.iB f b msg j q1 q2 q3 q4 q5 q6 r1 r2 r3 r4) (MiX.iS f b) dvs [] (He.ma K (He.ga K c) "__init__") fd) (hdv : dvs = [V.non])
    (hcall : ∀ env : PySem.Env, ∃ pl, eval (.Call (.Attribute (.Name b q1) "__init__" q2) [.Name "self" q3, .Constant (.str msg) j q4] [] q5) env = (do
      let ov ← eval (.Name b q1) env
      standAt q2.atName
      let (f, first) ← holding [ov] (getMethod ov "__init__" pl)
      callWith q5 f first (backTo q5 (starEach [.Name "self" q3, .Constant (.str msg) j q4] env)) (backToKw q5 (keywordEach [] env)))) 
    (hbind : ∀ (T : Addr) (kV doc pm : Value) (an : Option Addr) (cdv ct : Value) (us its : List Value), us.length = 2 → its.length = 1 →
      ∃ k, bindArgs (PySem.W.fnOf "__init__" qual (MiX.iA f dfl p1 p2) (MiX.iB f b msg j q1 q2 q3 q4 q5 q6 r1 r2 r3 r4) (MiX.iS f b) (.ref T) kV doc pm an cdv ct) ⟨us, []⟩ = seqItems? (.ref T) >>= k ∧ k (some its.toArray) = pure ((["self", f] : List Str).zip (us ++ its.drop 1))) :
    MiX.XcTxt K mg c f b (He.ga K c) (He.ma K (He.ga K c) "__init__") newId initId bm := by
  unfold xcB at q
  obtain ⟨a1, q⟩ := He.ba q
  obtain ⟨a2, q⟩ := He.ba q
  obtain ⟨a3, q⟩ := He.ba q
  obtain ⟨a4, q⟩ := He.ba q
  obtain ⟨a5, q⟩ := He.ba q
  obtain ⟨a6, q⟩ := He.ba q
  obtain ⟨a7, q⟩ := He.ba q
  obtain ⟨a8, q⟩ := He.ba q
  obtain ⟨a9, q⟩ := He.ba q
  obtain ⟨a10, q⟩ := He.ba q
  obtain ⟨a11, q⟩ := He.ba q
  obtain ⟨a12, q⟩ := He.ba q
  obtain ⟨fd, FD⟩ := FD
  subst hdv
  obtain ⟨ds, v1, v2⟩ := FD.binds1 (ps := ["self", f]) 2 1 (by simp) rfl (fun T kV doc pm an cdv ct us its l1 l2 => hbind T kV doc pm an cdv ct us its l1 l2)
  refine { gC := PySem.W.mg_of X G (He.eqO_ok a1), ei := a2, hd := a3, sa := He.eqO_ok a4, ga := He.eqO_ok a5, gg := He.eqO_ok a6, noN := He.eqO_ok a7, iC := He.eqO_ok a8, tC := of_decide_eq_true a9, kC := a10, exC := of_decide_eq_true a11, tyC := of_decide_eq_true a12, fd_ := d1, fs_ := d2, bd_ := d3, bs_ := d4, bf_ := d5, base := base_ok X G q hT, fn := ?_ }
  refine ⟨qual, msg, dfl, j, p1, p2, q1, q2, q3, q4, q5, q6, r1, r2, r3, r4, _, fd, FD, hcall, fun us hl s KX => ?_⟩
  have e0 : ds = [] := by cases v1; rfl
  subst e0
  have := v2 s us KX (by rw [List.append_nil]; exact hl)
  rw [List.append_nil] at this
  exact this
/-! ### the law's end -/
theorem walk_ofG {l : PySem.W.OpenLaw} {n k : Nat} {q : Program} {loose : List Str} {XP : (Str → Option Value) → Heap → Prop} {fs : List (Frag → Bool)} {fn : List He.DefD} {m : Nat} {d : DefRec} {x : Str}
    (hn : l.most = some n) (hn2 : n ≤ sizeLine) (hdf : d.params.defaults = []) (hr : RoomG k callerA)
    (F : ∀ (w : World) (mg : Str → Option Value) (fa : Addr) (h : Heap) (K : Frag), K.In h → obsK fs fn K = He.valD fn → h.Ns mainGlobals mg → mg d.name = some (.ref fa) →
      ∃ (fd : FuncData) (F0 : List D → Hd → Res D), (∀ (s : Shared) (u : Value), BindsTo s fd ⟨[u], []⟩ [(x, u)]) ∧
        (∀ ns : List Int, ns.length ≤ n → (∀ z ∈ ns, Builtin.Int.intBits z ≤ 1048576) → ∃ h', F0 [.ref 0] [.fro (ns.map .int)] = .ok (.bl true) h') ∧
        ∀ base : Heap, K.In base → base.Ns mainGlobals mg → FnG l.prog w K mg base (L2.CX l.prog w) k fa fd [x] (spD (rx K mg) 1 F0)) :
    PySem.W.WalkO q loose XP (hookM m fs fn).says l.row.toRowW d [] (fun f vs => PySem.call f vs) := by
  refine Att.attach_callB hn hdf fun w s₀ s₁ mg mb fa o pm cd doc a vs ns G Y ho hd hcd hmg hobj hints hlen hbits hg => ?_
  obtain ⟨K, KX, hnl, c⟩ := Y
  obtain ⟨fd, F0, hb, hmath, hF⟩ := F w mg fa _ K KX c G.T.g hmg
  have hk : K.lookup a = none := by
    cases e : K.lookup a with
    | none => rfl
    | some o =>
      have e2 := KX a o e
      rw [hobj] at e2
      cases e2
      have z : isLst ({ cls := .type "list", data := .seq vs.toArray } : Obj) = false := hnl _ (lookup_mem e)
      have z2 : isLst ({ cls := .type "list", data := .seq vs.toArray } : Obj) = true := by show ("list" == "list") = true; rfl
      rw [z2] at z
      cases z
  refine law_callG KX G.T.g G.T.b G.T.builtins G.T.nolimit hg hobj hints (Nat.le_trans hlen hn2) hr hF hb (fun H hO hz hS => ?_) (.inl hk) fun H e s' hx => ?_
  · rcases hz with ⟨ob, hz⟩ | hz
    · obtain ⟨h', hm⟩ := hmath ns hlen hbits
      refine ⟨rfl, [a], [.ref 0], [.fro (ns.map .int)], .cons (.ref rfl) .nil, ⟨rfl, by simp, fun i o e => ?_⟩, ?_⟩
      · cases i with
        | zero => cases e; exact ⟨a, rfl, ns.map .int, ob, hz, rel_ints ns⟩
        | succ i => simp at e
      · rw [hm]
        exact fun α' H' v x rh r => r.bl_inv
    · exact absurd hk hz
  · obtain ⟨_, _, _, _, _, _, _, _, _, _, _, _, z⟩ := hx
    exact z
end Mi

set_option Elab.async false
set_option linter.all false
set_option maxRecDepth 100000
set_option maxHeartbeats 1000000
namespace Mi
open PySem PySem.Spec PyProof.Rows L2
/-! ### the heap -/
section
variable {A : Type} {h l : List A} {x : A}
@[simp] theorem app_at0 : (h ++ l)[h.length]? = l[0]? := by rw [List.getElem?_append_right (Nat.le_refl _), Nat.sub_self]
@[simp] theorem app_at {k : Nat} : (h ++ l)[h.length + k]? = l[k]? := by rw [List.getElem?_append_right (Nat.le_add_right _ _), Nat.add_sub_cancel_left]
@[simp] theorem app_set0 : (h ++ l).set h.length x = h ++ l.set 0 x := by rw [List.set_append_right _ _ (Nat.le_refl _), Nat.sub_self]
@[simp] theorem app_set {k : Nat} : (h ++ l).set (h.length + k) x = h ++ l.set k x := by rw [List.set_append_right _ _ (Nat.le_add_right _ _), Nat.add_sub_cancel_left]
theorem app_old {n : Nat} {o : A} (e : h[n]? = some o) : (h ++ l)[n]? = some o := by
  rw [List.getElem?_append_left (List.getElem?_eq_some_iff.mp e).1]
  exact e
end
/-- nothing old is touched but what stands in S -/
structure Kp (S : List Nat) (h h' : Hd) : Prop where
  len : h.length ≤ h'.length
  at_ : ∀ i o, i ∉ S → h[i]? = some o → h'[i]? = some o
theorem Kp.refl {S : List Nat} {h : Hd} : Kp S h h := ⟨Nat.le_refl _, fun _ _ _ e => e⟩
theorem Kp.trans {S : List Nat} {h h1 h2 : Hd} (a : Kp S h h1) (b : Kp S h1 h2) : Kp S h h2 := ⟨Nat.le_trans a.len b.len, fun i o hi e => b.at_ i o hi (a.at_ i o hi e)⟩
theorem Kp.app {S : List Nat} {h g : Hd} : Kp S h (h ++ g) := ⟨by rw [List.length_append]; exact Nat.le_add_right _ _, fun i o _ e => app_old e⟩
theorem Kp.mono {S T : List Nat} {h h' : Hd} (a : Kp S h h') (st : ∀ i ∈ S, i ∈ T) : Kp T h h' := ⟨a.len, fun i o hi => a.at_ i o fun z => hi (st i z)⟩
theorem Kp.any {T : List Nat} {h h' : Hd} (a : Kp [] h h') : Kp T h h' := a.mono fun _ z => by cases z
theorem Kp.set {S : List Nat} {h : Hd} {n : Nat} {o : Ob} (hn : n ∈ S) : Kp S h (h.set n o) := ⟨by rw [List.length_set]; exact Nat.le_refl _, fun i u hi e => by
  rw [List.getElem?_set_ne (show n ≠ i from fun z => hi (z ▸ hn))]
  exact e⟩
/-- a fresh object may be written -/
theorem Kp.setNew {S : List Nat} {h0 h : Hd} {n : Nat} {o : Ob} (a : Kp S h0 h) (hn : h0.length ≤ n) : Kp S h0 (h.set n o) := ⟨by rw [List.length_set]; exact a.len, fun i u hi e => by
  have := (List.getElem?_eq_some_iff.mp e).1
  rw [List.getElem?_set_ne (by omega)]
  exact a.at_ i u hi e⟩
/-! ### loops -/
def stepS (tg : Fg) (body : Fs) (d : D) (env : En) (h : Hd) : SRes := match tg d env h with
  | none => .no
  | some (env1, h1) => (match body env1 h1 with
    | .ct env2 h2 => .nx env2 h2
    | r => r)
theorem forL_step {src : Src} {tg : Fg} {body : Fs} {m i : Nat} {env env' : En} {h h' : Hd} {d : D} (e : src h i = .item d) (s : stepS tg body d env h = .nx env' h') : forL src tg body (m + 1) i env h = forL src tg body m (i + 1) env' h' := by
  unfold stepS at s
  show (match src h i with
    | .stop => SRes.nx env h
    | .bad => .no
    | .item d => (match tg d env h with
      | none => .no
      | some (env1, h1) => (match body env1 h1 with
        | .nx env2 h2 => forL src tg body m (i + 1) env2 h2
        | .ct env2 h2 => forL src tg body m (i + 1) env2 h2
        | .bk env2 h2 => .nx env2 h2
        | r => r))) = _
  rw [e]
  dsimp only
  cases e1 : tg d env h with
  | none => rw [e1] at s; cases s
  | some p =>
    obtain ⟨env1, h1⟩ := p
    rw [e1] at s
    dsimp only at s ⊢
    cases e2 : body env1 h1 <;> rw [e2] at s <;> cases s <;> rfl
theorem forL_stop {src : Src} {tg : Fg} {body : Fs} {m i : Nat} {env : En} {h : Hd} (e : src h i = .stop) : forL src tg body (m + 1) i env h = .nx env h := by
  show (match src h i with
    | .stop => SRes.nx env h
    | .bad => .no
    | .item d => (match tg d env h with
      | none => .no
      | some (env1, h1) => (match body env1 h1 with
        | .nx env2 h2 => forL src tg body m (i + 1) env2 h2
        | .ct env2 h2 => forL src tg body m (i + 1) env2 h2
        | .bk env2 h2 => .nx env2 h2
        | r => r))) = _
  rw [e]
theorem for_go {src : Src} {tg : Fg} {body : Fs} (n : Nat) (it : Nat → D) (P : Nat → En → Hd → Prop) (hs : ∀ i env h, i < n → P i env h → src h i = .item (it i) ∧ ∃ env' h', stepS tg body (it i) env h = .nx env' h' ∧ P (i + 1) env' h')
    (he : ∀ env h, P n env h → src h n = .stop) : ∀ (k i m : Nat) (env : En) (h : Hd), i + k = n → k < m → P i env h → ∃ env' h', forL src tg body m i env h = .nx env' h' ∧ P n env' h'
  | 0, i, m + 1, env, h, e, _, p => by
    have : i = n := by omega
    subst this
    exact ⟨env, h, forL_stop (he env h p), p⟩
  | k + 1, i, m + 1, env, h, e, hm, p => by
    obtain ⟨a, env', h', b, c⟩ := hs i env h (by omega) p
    rw [forL_step a b]
    exact for_go n it P hs he k (i + 1) m env' h' (by omega) (by omega) c
  | 0, _, 0, _, _, _, hm, _ => absurd hm (Nat.not_lt_zero _)
  | _ + 1, _, 0, _, _, _, hm, _ => absurd hm (Nat.not_lt_zero _)
theorem for_inv {src : Src} {tg : Fg} {body : Fs} {env : En} {h : Hd} (n : Nat) (it : Nat → D) (P : Nat → En → Hd → Prop) (h0 : P 0 env h) (hs : ∀ i env h, i < n → P i env h → src h i = .item (it i) ∧ ∃ env' h', stepS tg body (it i) env h = .nx env' h' ∧ P (i + 1) env' h')
    (he : ∀ env h, P n env h → src h n = .stop) (hn : n < most) : ∃ env' h', forL src tg body most 0 env h = .nx env' h' ∧ P n env' h' := for_go n it P hs he n 0 most env h (by omega) hn h0
/-! ### comprehensions -/
theorem lcL_step {src : Src} {tg : Fg} {tst : Ft} {el : Fe} {env env1 : En} {k m i : Nat} {h h1 h2 h3 : Hd} {d y : D} {acc : List D} (e : src h i = .item d) (g : tg d env h = some (env1, h1)) (t : tst env1 h1 = .ok true h2) (y_ : el env1 h2 = .ok y h3) (a : h3[k]? = some (.lst acc)) (hl : acc.length < 16777216) :
    lcL src tg tst el env k (m + 1) i h = lcL src tg tst el env k m (i + 1) (h3.set k (.lst (acc ++ [y]))) := by
  rw [lcL]
  rw [e]
  dsimp only
  rw [g]
  dsimp only
  rw [t]
  dsimp only
  rw [y_]
  dsimp only
  rw [a]
  dsimp only
  rw [if_pos hl]
theorem lcL_skip {src : Src} {tg : Fg} {tst : Ft} {el : Fe} {env env1 : En} {k m i : Nat} {h h1 h2 : Hd} {d : D} (e : src h i = .item d) (g : tg d env h = some (env1, h1)) (t : tst env1 h1 = .ok false h2) :
    lcL src tg tst el env k (m + 1) i h = lcL src tg tst el env k m (i + 1) h2 := by
  rw [lcL]
  rw [e]
  dsimp only
  rw [g]
  dsimp only
  rw [t]
theorem lcL_stop {src : Src} {tg : Fg} {tst : Ft} {el : Fe} {env : En} {k m i : Nat} {h : Hd} (e : src h i = .stop) : lcL src tg tst el env k (m + 1) i h = .ok (.ref k) h := by
  rw [lcL]
  rw [e]
/-- one turn: what it does with the heap, what it adds -/
def turnC (tg : Fg) (tst : Ft) (el : Fe) (env : En) (d : D) (h : Hd) : Res (List D) := match tg d env h with
  | none => .no
  | some (env1, h1) => (match tst env1 h1 with
    | .ok false h2 => .ok [] h2
    | .ok true h2 => (match el env1 h2 with
      | .ok y h3 => .ok [y] h3
      | _ => .no)
    | _ => .no)
theorem lc_go {src : Src} {tg : Fg} {tst : Ft} {el : Fe} {env : En} {k : Nat} (n : Nat) (it : Nat → D) (P : Nat → Hd → List D → Prop) (hs : ∀ i h acc, i < n → P i h acc → h[k]? = some (.lst acc) → src h i = .item (it i) ∧ ∃ ys h', turnC tg tst el env (it i) h = .ok ys h' ∧ h'[k]? = some (.lst acc) ∧ P (i + 1) (h'.set k (.lst (acc ++ ys))) (acc ++ ys))
    (he : ∀ h acc, P n h acc → h[k]? = some (.lst acc) → src h n = .stop) (hb : n ≤ 16777216) : ∀ (r i m : Nat) (h : Hd) (acc : List D), i + r = n → r < m → acc.length ≤ i → h[k]? = some (.lst acc) → P i h acc → ∃ h' acc', lcL src tg tst el env k m i h = .ok (.ref k) h' ∧ h'[k]? = some (.lst acc') ∧ acc'.length ≤ n ∧ P n h' acc'
  | 0, i, m + 1, h, acc, e, _, hl, hk, p => by
    have : i = n := by omega
    subst this
    exact ⟨h, acc, lcL_stop (he h acc p hk), hk, hl, p⟩
  | r + 1, i, m + 1, h, acc, e, hm, hl, hk, p => by
    obtain ⟨a, ys, h', b, c, q⟩ := hs i h acc (by omega) p hk
    have hk' : (h'.set k (.lst (acc ++ ys)))[k]? = some (.lst (acc ++ ys)) := List.getElem?_set_self (List.getElem?_eq_some_iff.mp c).1
    unfold turnC at b
    cases e1 : tg (it i) env h with
    | none => rw [e1] at b; cases b
    | some pr =>
      obtain ⟨env1, h1⟩ := pr
      rw [e1] at b
      dsimp only at b
      cases e2 : tst env1 h1 with
      | no => rw [e2] at b; cases b
      | ex _ _ => rw [e2] at b; cases b
      | ok t h2 =>
        rw [e2] at b
        cases t with
        | false =>
          dsimp only at b
          cases b
          rw [lcL_skip a e1 e2]
          have z : h'.set k (.lst (acc ++ [])) = h' := by
            rw [List.append_nil]
            refine List.ext_getElem? fun j => ?_
            by_cases hj : k = j
            · subst hj
              rw [List.getElem?_set_self (List.getElem?_eq_some_iff.mp c).1, c]
            · rw [List.getElem?_set_ne hj]
          rw [z] at q hk'
          rw [List.append_nil] at q hk'
          exact lc_go n it P hs he hb r (i + 1) m h' acc (by omega) (by omega) (by omega) hk' q
        | true =>
          dsimp only at b
          cases e3 : el env1 h2 with
          | no => rw [e3] at b; cases b
          | ex _ _ => rw [e3] at b; cases b
          | ok y h3 =>
            rw [e3] at b
            cases b
            rw [lcL_step a e1 e2 e3 c (by omega)]
            exact lc_go n it P hs he hb r (i + 1) m _ _ (by omega) (by omega) (by rw [List.length_append, List.length_singleton]; omega) hk' q
  | 0, _, 0, _, _, _, hm, _, _, _ => absurd hm (Nat.not_lt_zero _)
  | _ + 1, _, 0, _, _, _, hm, _, _, _ => absurd hm (Nat.not_lt_zero _)
theorem lc_inv {src : Src} {tg : Fg} {tst : Ft} {el : Fe} {env : En} {h : Hd} (n : Nat) (it : Nat → D) (P : Nat → Hd → List D → Prop) (h0 : P 0 (h ++ [.lst []]) []) (hs : ∀ i h1 acc, i < n → P i h1 acc → h1[h.length]? = some (.lst acc) → src h1 i = .item (it i) ∧ ∃ ys h', turnC tg tst el env (it i) h1 = .ok ys h' ∧ h'[h.length]? = some (.lst acc) ∧ P (i + 1) (h'.set h.length (.lst (acc ++ ys))) (acc ++ ys))
    (he : ∀ h1 acc, P n h1 acc → h1[h.length]? = some (.lst acc) → src h1 n = .stop) (hb : n ≤ 16777216) : ∃ h' acc', lcL src tg tst el env h.length most 0 (h ++ [.lst []]) = .ok (.ref h.length) h' ∧ h'[h.length]? = some (.lst acc') ∧ acc'.length ≤ n ∧ P n h' acc' :=
  lc_go n it P hs he hb n 0 most _ _ (by omega) (by rw [most_eq]; omega) (Nat.le_refl _) (by simp) h0
/-! ### what is walked -/
theorem fix_item {xs : List D} {h : Hd} {i : Nat} (hi : i < xs.length) : fixS xs h i = .item (xs.getD i .non) := by
  unfold fixS
  rw [List.getD_eq_getElem?_getD, List.getElem?_eq_getElem hi]
  rfl
theorem fix_stop {xs : List D} {h : Hd} : fixS xs h xs.length = .stop := by
  unfold fixS
  rw [List.getElem?_eq_none (Nat.le_refl _)]
theorem live_item {xs : List D} {h : Hd} {n i : Nat} (e : h[n]? = some (.lst xs) ∨ h[n]? = some (.fro xs)) (hi : i < xs.length) : liveS n h i = .item (xs.getD i .non) := by
  unfold liveS
  rcases e with e | e <;> rw [e] <;> exact fix_item hi
theorem live_stop {xs : List D} {h : Hd} {n : Nat} (e : h[n]? = some (.lst xs) ∨ h[n]? = some (.fro xs)) : liveS n h xs.length = .stop := by
  unfold liveS
  rcases e with e | e <;> rw [e] <;> exact fix_stop
theorem rng_item {lo c : Int} {n i : Nat} {h : Hd} (hi : i < n) : rngS lo n c h i = .item (.int (lo + (i : Nat) * c)) := by
  unfold rngS
  rw [if_pos hi]
theorem rng_stop {lo c : Int} {n : Nat} {h : Hd} : rngS lo n c h n = .stop := by
  unfold rngS
  rw [if_neg (Nat.lt_irrefl _)]
theorem enm_item {s : Src} {h : Hd} {i : Nat} {d : D} (e : s h i = .item d) : enmS s h i = .item (.tup [.int (i : Nat), d]) := by
  unfold enmS
  rw [e]
theorem enm_stop {s : Src} {h : Hd} {i : Nat} (e : s h i = .stop) : enmS s h i = .stop := by
  unfold enmS
  rw [e]
/-! ### data -/
def dI (n : Int) : D := .int n
theorem ints_map : ∀ ns : List Int, intsD (ns.map .int) = some ns
  | [] => rfl
  | n :: r => by
    rw [List.map_cons, intsD, ints_map r]
theorem bools_map : ∀ ns : List Bool, boolsD (ns.map .bl) = some ns
  | [] => rfl
  | n :: r => by
    rw [List.map_cons, boolsD, bools_map r]
theorem toP_map {A : Type} {f : A → D} {g : A → PyData} {n : Nat} {h : Hd} : ∀ l : List A, (∀ a ∈ l, toP n h (f a) = some (g a)) → (l.map f).mapM (toP n h) = some (l.map g)
  | [], _ => rfl
  | a :: l, e => by
    rw [List.map_cons, List.mapM_cons, e a (List.mem_cons_self ..), toP_map l fun b hb => e b (List.mem_cons_of_mem _ hb)]
    rfl
theorem toP_ints {n : Nat} {h : Hd} (l : List Int) : (l.map D.int).mapM (toP (n + 1) h) = some (l.map PyData.int) := toP_map l fun _ _ => rfl
theorem eqv_ints : ∀ l m : List Int, PyData.eqvAll (l.map .int) (m.map .int) = decide (l = m)
  | [], [] => rfl
  | [], _ :: _ => rfl
  | _ :: _, [] => rfl
  | a :: l, b :: m => by
    rw [List.map_cons, List.map_cons, PyData.eqvAll, eqv_ints l m, PyData.eqv]
    rw [Bool.eq_iff_iff]
    simp
theorem eqv_lists : ∀ l m : List (List Int), PyData.eqvAll (l.map fun x => .tuple (x.map .int)) (m.map fun x => .tuple (x.map .int)) = decide (l = m)
  | [], [] => rfl
  | [], _ :: _ => rfl
  | _ :: _, [] => rfl
  | a :: l, b :: m => by
    rw [List.map_cons, List.map_cons, PyData.eqvAll, eqv_lists l m, PyData.eqv, eqv_ints]
    rw [Bool.eq_iff_iff]
    simp
theorem lay_ints : ∀ l : List Int, PyData.canLayAll0 (l.map .int) = true
  | [] => rfl
  | a :: l => by
    rw [List.map_cons, PyData.canLayAll0, lay_ints l]
    rfl
theorem dep_ints : ∀ l : List Int, PyData.depthAll (l.map .int) = 0
  | [] => rfl
  | a :: l => by
    rw [List.map_cons, PyData.depthAll, dep_ints l]
    rfl
theorem lay_lists : ∀ l : List (List Int), PyData.canLayAll0 (l.map fun x => .tuple (x.map .int)) = true
  | [] => rfl
  | a :: l => by
    rw [List.map_cons, PyData.canLayAll0, lay_lists l, PyData.canLay0, lay_ints]
    rfl
theorem dep_lists : ∀ l : List (List Int), PyData.depthAll (l.map fun x => .tuple (x.map .int)) ≤ 1
  | [] => Nat.zero_le _
  | a :: l => by
    rw [List.map_cons, PyData.depthAll, PyData.depth, dep_ints]
    have := dep_lists l
    omega
/-! ### texts of data -/
mutual
def nod : PyData → Nat
  | .list xs => nods xs + 1
  | .tuple xs => nods xs + 1
  | .str _ => 16777216
  | .dict _ => 16777216
  | .none => 1
  | .bool _ => 1
  | .int _ => 1
def nods : List PyData → Nat
  | [] => 0
  | d :: r => nod d + nods r
end
theorem lt_len (ts : List Str) : (listText ts).length ≤ (ts.map (·.length)).sum + ts.length * 2 + 2 := by
  have h : ∀ (ts : List Str) (k : Nat) (acc : Str), (textFrom k acc ts).length ≤ acc.length + (ts.map (·.length)).sum + ts.length * 2 := by
    intro ts
    induction ts with
    | nil => intro k acc; show acc.length ≤ _; simp
    | cons t r ih =>
      intro k acc
      have := ih (k + 1) (acc ++ (if k > 0 then ", " else "" : String) ++ t)
      have e : (textFrom k acc (t :: r)) = textFrom (k + 1) (acc ++ (if k > 0 then ", " else "" : String) ++ t) r := rfl
      rw [e]
      refine Nat.le_trans this ?_
      rw [Str.length_append, Str.length_append, List.map_cons, List.sum_cons, List.length_cons]
      have : (Str.ofString (if k > 0 then ", " else "" : String)).length ≤ 2 := by
        split
        · exact Nat.le_refl 2
        · exact Nat.zero_le _
      omega
  unfold listText
  rw [Str.length_append]
  have e1 : (Str.ofString "]").length = 1 := rfl
  have := h ts 0 "["
  have e2 : (Str.ofString "[").length = 1 := rfl
  rw [e1]
  omega
theorem tt_len (ts : List Str) : (tupleText ts).length ≤ (ts.map (·.length)).sum + ts.length * 2 + 3 := by
  unfold tupleText
  rw [Str.length_append, Str.length_append]
  have h1 := StrLaws.join_length_le ", " ts
  have e1 : (Str.ofString ", ").length = 2 := rfl
  have e2 : (Str.ofString "(").length = 1 := rfl
  have e3 : (Str.ofString (if ts.length == 1 then ",)" else ")" : String)).length ≤ 2 := by
    split
    · exact Nat.le_refl 2
    · exact Nat.le_succ 1
  rw [e1] at h1
  rw [e2]
  omega
mutual
theorem shown_le : ∀ d : PyData, d.showable = true → nod d < 16777216 → d.shown.length + 2 ≤ 1925 * nod d
  | .none, _, _ => by unfold PyData.shown nod; decide
  | .bool b, _, _ => by unfold PyData.shown nod; cases b <;> decide
  | .int i, h, _ => by
    have := int_text_len_1921 (i := i) (by simpa [PyData.showable] using h)
    unfold PyData.shown nod
    omega
  | .str x, _, h => by unfold nod at h; omega
  | .dict x, _, h => by unfold nod at h; omega
  | .list xs, h, hn => by
    unfold nod at hn ⊢
    unfold PyData.shown
    have := shownAll_le xs (by simpa [PyData.showable] using h) (by omega)
    have := lt_len (PyData.shownAll xs)
    omega
  | .tuple xs, h, hn => by
    unfold nod at hn ⊢
    unfold PyData.shown
    have := shownAll_le xs (by simpa [PyData.showable] using h) (by omega)
    have := tt_len (PyData.shownAll xs)
    omega
theorem shownAll_le : ∀ ds : List PyData, PyData.showableAll ds = true → nods ds < 16777216 → ((PyData.shownAll ds).map (·.length)).sum + (PyData.shownAll ds).length * 2 ≤ 1925 * nods ds
  | [], _, _ => by unfold PyData.shownAll nods; simp
  | d :: r, h, hn => by
    rw [PyData.showableAll, Bool.and_eq_true] at h
    unfold nods at hn ⊢
    unfold PyData.shownAll
    have h1 := shown_le d h.1 (by omega)
    have h2 := shownAll_le r h.2 (by omega)
    rw [List.map_cons, List.sum_cons, List.length_cons]
    omega
end
theorem repOk_of {d : PyData} (h : d.showable = true) (h2 : d.hasDict = false) (h3 : d.depth ≤ 60) (h4 : nod d ≤ 8000) : repOk d = true := by
  have := shown_le d h (by omega)
  unfold repOk
  rw [h, h2, decide_eq_true h3, decide_eq_true (show d.shown.length ≤ 16777216 by omega)]
  rfl
theorem log_lt {i : Int} {k : Nat} (h : i.natAbs < 2 ^ k) (hk : 0 < k) : i.natAbs.log2 < k := by
  by_cases h0 : i.natAbs = 0
  · rw [h0]; exact hk
  · exact (Nat.log2_lt h0).mpr h
theorem for_none {src : Src} {tg : Fg} {body : Fs} {env : En} {h : Hd} (e : src h 0 = .stop) : forL src tg body most 0 env h = .nx env h := by
  obtain ⟨m, hm⟩ : ∃ m, most = m + 1 := ⟨1099511627775, by rw [most_eq]⟩
  rw [hm]
  exact forL_stop e
theorem sFor_ok {it : Fi} {tg : Fg} {body : Fs} {env : En} {h h1 : Hd} {src : Src} (e : it env h = .ok src h1) : sFor it tg body env h = forL src tg body most 0 env h1 := by
  unfold sFor
  rw [e]
theorem eLc_ok {it : Fi} {tg : Fg} {tst : Ft} {el : Fe} {vs : List Nat} {env : En} {h h1 : Hd} {src : Src} (e : it env h = .ok src h1) : eLc it tg tst el vs env h = lcL src tg tst el (wipeE env vs) h1.length most 0 (h1 ++ [.lst []]) := by
  unfold eLc
  rw [e]
theorem rng1_ok {fa : Fa} {env : En} {h h1 : Hd} {j : Int} (e : fa env h = .ok [.int j] h1) (e1 : rngOk j = true) : iRng1D fa env h = .ok (rngS 0 j.toNat 1) h1 := by
  unfold iRng1D
  rw [e]
  show (if rngOk j = true then Res.ok (rngS 0 j.toNat 1) h1 else .no) = _
  rw [if_pos e1]
theorem rng2_ok {fa : Fa} {env : En} {h h1 : Hd} {i j : Int} (e : fa env h = .ok [.int i, .int j] h1) (e1 : rngOk i = true) (e2 : rngOk j = true) : iRng2D fa env h = .ok (rngS i (j - i).toNat 1) h1 := by
  unfold iRng2D
  rw [e]
  show (if (rngOk i && rngOk j) = true then Res.ok (rngS i (j - i).toNat 1) h1 else .no) = _
  rw [e1, e2, Bool.and_self, if_pos rfl]
end Mi

set_option Elab.async false
set_option linter.all false
set_option maxRecDepth 100000
set_option maxHeartbeats 1000000
namespace Mi
open PySem PySem.Spec PyProof.Rows L2
theorem seq_nx {f g : Fs} {env env1 : En} {h h1 : Hd} (e : f env h = .nx env1 h1) : sSeq f g env h = g env1 h1 := by
  show (match f env h with
    | .nx env1 h1 => g env1 h1
    | r => r) = _
  rw [e]
theorem run_rt {m : Nat} {b : Fs} {ds : List D} {h h' : Hd} {d : D} (env : En) (e : b env h = .rt d h') (he : ds.map some ++ List.replicate (m - ds.length) none = env := by rfl) : runF m b ds h = .ok d h' := by
  unfold runF
  rw [he, e]
theorem run_nx {m : Nat} {b : Fs} {ds : List D} {h h' : Hd} {env' : En} (env : En) (e : b env h = .nx env' h') (he : ds.map some ++ List.replicate (m - ds.length) none = env := by rfl) : runF m b ds h = .ok .non h' := by
  unfold runF
  rw [he, e]
theorem ret_ok {fe : Fe} {env : En} {h h' : Hd} {d : D} (e : fe env h = .ok d h') : sRet fe env h = .rt d h' := by
  show (match fe env h with
    | .ok d h1 => SRes.rt d h1
    | .ex e h1 => .ex e env h1
    | .no => .no) = _
  rw [e]
theorem expr_ok {fe : Fe} {env : En} {h h' : Hd} {d : D} (e : fe env h = .ok d h') : sExpr fe env h = .nx env h' := by
  show (match fe env h with
    | .ok d h1 => SRes.nx env h1
    | .ex e h1 => .ex e env h1
    | .no => .no) = _
  rw [e]
theorem asg_ok {fe : Fe} {i : Nat} {env : En} {h h' : Hd} {d : D} (e : fe env h = .ok d h') (hi : i < env.length) : sAsg fe (gSet i) env h = .nx (env.set i (some d)) h' := by
  show (match fe env h with
    | .ok d h1 => (match gSet i d env h1 with
      | some (env1, h1) => SRes.nx env1 h1
      | none => .no)
    | .ex e h1 => .ex e env h1
    | .no => .no) = _
  rw [e]
  dsimp only [gSet]
  rw [if_pos hi]
theorem if_ok {c : Ft} {f g : Fs} {env : En} {h h' : Hd} {b : Bool} (e : c env h = .ok b h') : sIf c f g env h = (if b = true then f else g) env h' := by
  show (match c env h with
    | .ok d h1 => (if d = true then f else g) env h1
    | .ex e h1 => .ex e env h1
    | .no => .no) = _
  rw [e]
theorem call_ok {F : List D → Hd → Res D} {fa : Fa} {env : En} {h h1 : Hd} {ds : List D} (e : fa env h = .ok ds h1) : eCall F fa env h = F ds h1 := by
  show (fa env h).bind F = _
  rw [e]
  rfl
theorem callK_ok {F : List D → Hd → Res D} {g : List D → List D → List D} {fa fk : Fa} {env : En} {h h1 h2 : Hd} {ds ws : List D} (e : fa env h = .ok ds h1) (e2 : fk env h1 = .ok ws h2) : eCallK F g fa fk env h = F (g ds ws) h2 := by
  show (fa env h).bind (fun ds h1 => (fk env h1).bind fun ws h2 => F (g ds ws) h2) = _
  rw [e]
  show (fk env h1).bind (fun ws h2 => F (g ds ws) h2) = _
  rw [e2]
  rfl
theorem cons_ok {f : Fe} {g : Fa} {env : En} {h h1 h2 : Hd} {x : D} {xs : List D} (e : f env h = .ok x h1) (e2 : g env h1 = .ok xs h2) : aCons f g env h = .ok (x :: xs) h2 := by
  show (f env h).bind (fun x h1 => (g env h1).bind fun xs h2 => .ok (x :: xs) h2) = _
  rw [e]
  show (g env h1).bind (fun xs h2 => .ok (x :: xs) h2) = _
  rw [e2]
  rfl
theorem op_ok {g : D → D → Hd → Res D} {fa fb : Fe} {env : En} {h h1 h2 : Hd} {x y : D} (e : fa env h = .ok x h1) (e2 : fb env h1 = .ok y h2) : eOp g fa fb env h = g x y h2 := by
  show (fa env h).bind (fun x h1 => (fb env h1).bind fun y h2 => g x y h2) = _
  rw [e]
  show (fb env h1).bind (fun y h2 => g x y h2) = _
  rw [e2]
  rfl
theorem tOf_ok {f : Fe} {env : En} {h h' : Hd} {b : Bool} (e : f env h = .ok (.bl b) h') : tOf f env h = .ok b h' := by
  show (f env h).bind toB = _
  rw [e]
  rfl
/-! ### equality of data -/
theorem deep_ok {x y : D} {h : Hd} {k : Bool → Bool} {d e : PyData} (hx : toP maxP h x = some d) (hy : toP maxP h y = some e) (s1 : SeqAt.shaped d = true) (s2 : SeqAt.shaped e = true) : eqDeep x y h k = .ok (.bl (k (PyData.eqv d e))) h := by
  unfold eqDeep
  rw [hx, hy]
  show (if (SeqAt.shaped d && SeqAt.shaped e) = true then Res.ok (D.bl (k (PyData.eqv d e))) h else .no) = _
  rw [s1, s2]
  rfl
theorem eqB_ref {m n : Nat} {h : Hd} {k : Bool → Bool} : eqB (.ref m) (.ref n) h k = eqDeep (.ref m) (.ref n) h k := rfl
theorem eqB_tup {m n : List D} {h : Hd} {k : Bool → Bool} : eqB (.tup m) (.tup n) h k = eqDeep (.tup m) (.tup n) h k := rfl
theorem toP_lst {n r : Nat} {h : Hd} {l : List Int} (e : h[r]? = some (.lst (l.map .int))) : toP (n + 2) h (.ref r) = some (.list (l.map .int)) := by
  unfold toP
  rw [e]
  show ((l.map D.int).mapM (toP (n + 1) h)).map PyData.list = _
  rw [toP_ints]
  rfl
theorem toP_tup {n : Nat} {h : Hd} {l : List Int} : toP (n + 2) h (.tup (l.map .int)) = some (.tuple (l.map .int)) := by
  unfold toP
  rw [toP_ints]
  rfl
theorem sh_list (l : List Int) : SeqAt.shaped (.list (l.map .int)) = true := by
  unfold SeqAt.shaped
  rw [PyData.canLay0, lay_ints, PyData.depth, dep_ints]
  rfl
theorem sh_tup (l : List Int) : SeqAt.shaped (.tuple (l.map .int)) = true := by
  unfold SeqAt.shaped
  rw [PyData.canLay0, lay_ints, PyData.depth, dep_ints]
  rfl
theorem eqv_list (l m : List Int) : PyData.eqv (.list (l.map .int)) (.list (m.map .int)) = decide (l = m) := by rw [PyData.eqv, eqv_ints]
theorem eqv_tup (l m : List Int) : PyData.eqv (.tuple (l.map .int)) (.tuple (m.map .int)) = decide (l = m) := by rw [PyData.eqv, eqv_ints]
theorem eq_lists {r t : Nat} {h : Hd} {l m : List Int} {k : Bool → Bool} (e : h[r]? = some (.lst (l.map .int))) (e2 : h[t]? = some (.lst (m.map .int))) : eqB (.ref r) (.ref t) h k = .ok (.bl (k (decide (l = m)))) h := by
  rw [eqB_ref, deep_ok (toP_lst (n := 22) e) (toP_lst (n := 22) e2) (sh_list l) (sh_list m), eqv_list]
theorem eq_tups {h : Hd} {l m : List Int} {k : Bool → Bool} : eqB (.tup (l.map .int)) (.tup (m.map .int)) h k = .ok (.bl (k (decide (l = m)))) h := by
  rw [eqB_tup, deep_ok (toP_tup (n := 22)) (toP_tup (n := 22)) (sh_tup l) (sh_tup m), eqv_tup]
/-! ### repr -/
theorem repr_ok {x : D} {h : Hd} {d : PyData} (e : toP maxP h x = some d) (ok : repOk d = true) : gRepr [x] h = .ok (.str d.shown) h := by
  unfold gRepr
  dsimp only
  rw [e]
  dsimp only
  rw [if_pos ok]
theorem repr_int {i : Int} {h : Hd} (hi : i.natAbs.log2 < 1920) : gRepr [.int i] h = .ok (.str (PyData.int i).shown) h :=
  repr_ok (d := .int i) rfl (repOk_of (by simpa [PyData.showable] using hi) (by simp [PyData.hasDict]) (by simp [PyData.depth]) (by simp [nod]))
end Mi

set_option Elab.async false
set_option linter.all false
set_option maxRecDepth 100000
set_option maxHeartbeats 4000000
namespace Lw
open PySem PySem.Spec PyProof.Rows L2 Mi
abbrev Pg : Program := PySem.Challenge.pw_alwayswhole_k56_whole_friezes
def top (i : Nat) : Stmt := PySem.Challenge.pw_alwayswhole_k56_whole_friezes.main.body.getD i (.Pass ⟨0, 0, 0, 0⟩)
def cBody (s : Stmt) : List Stmt := match s with
  | .ClassDef (body := b) .. => b
  | _ => []
theorem XBV : MiX.XBase "ValueError" "ValueError.__new__" "ValueError.__init__" He.veBase := ⟨PySem.F.excBase_ValueError, rfl, PySem.F.store_ValueError⟩
/-! ### _law_draw -/
abbrev st__law_draw : Stmt := top 28
def N__law_draw : List Str := ["cell", "k"]
def p__law_draw : List Str := ["cell", "k"]
theorem sc__law_draw : FnScope N__law_draw p__law_draw (defScope st__law_draw) := ⟨rfl, rfl, rfl, by decide +kernel, rfl, by decide +kernel, by decide +kernel⟩
def d__law_draw : He.DefD := ⟨("_law_draw", none), "_law_draw", "_law_draw", defArgs st__law_draw, defBody st__law_draw, defScope st__law_draw, [], []⟩
/-! ### _law_table -/
abbrev st__law_table : Stmt := top 34
def N__law_table : List Str := ["row", "a", "b", "c", "d", "part"]
def p__law_table : List Str := ["row"]
theorem sc__law_table : FnScope N__law_table p__law_table (defScope st__law_table) := ⟨rfl, rfl, rfl, by decide +kernel, rfl, by decide +kernel, by decide +kernel⟩
def d__law_table : He.DefD := ⟨("_law_table", none), "_law_table", "_law_table", defArgs st__law_table, defBody st__law_table, defScope st__law_table, [], []⟩
/-! ### _law_between -/
abbrev st__law_between : Stmt := top 35
def N__law_between : List Str := ["numbers", "one", "other", "mark"]
def p__law_between : List Str := ["numbers", "one", "other"]
theorem sc__law_between : FnScope N__law_between p__law_between (defScope st__law_between) := ⟨rfl, rfl, rfl, by decide +kernel, rfl, by decide +kernel, by decide +kernel⟩
def d__law_between : He.DefD := ⟨("_law_between", none), "_law_between", "_law_between", defArgs st__law_between, defBody st__law_between, defScope st__law_between, [], []⟩
/-! ### is_whole -/
abbrev st_is_whole : Stmt := top 6
def N_is_whole : List Str := ["thing", "least", "most"]
def p_is_whole : List Str := ["thing", "least", "most"]
theorem sc_is_whole : FnScope N_is_whole p_is_whole (defScope st_is_whole) := ⟨rfl, rfl, rfl, by decide +kernel, rfl, by decide +kernel, by decide +kernel⟩
def d_is_whole : He.DefD := ⟨("is_whole", none), "is_whole", "is_whole", defArgs st_is_whole, defBody st_is_whole, defScope st_is_whole, [], []⟩
/-! ### wrong_numbers -/
abbrev st_wrong_numbers : Stmt := top 11
def N_wrong_numbers : List Str := ["thing", "least", "place", "part"]
def p_wrong_numbers : List Str := ["thing", "least"]
theorem sc_wrong_numbers : FnScope N_wrong_numbers p_wrong_numbers (defScope st_wrong_numbers) := ⟨rfl, rfl, rfl, by decide +kernel, rfl, by decide +kernel, by decide +kernel⟩
def d_wrong_numbers : He.DefD := ⟨("wrong_numbers", none), "wrong_numbers", "wrong_numbers", defArgs st_wrong_numbers, defBody st_wrong_numbers, defScope st_wrong_numbers, [], []⟩
/-! ### need_quiddity -/
abbrev st_need_quiddity : Stmt := top 14
def N_need_quiddity : List Str := ["quiddity", "wrong"]
def p_need_quiddity : List Str := ["quiddity"]
theorem sc_need_quiddity : FnScope N_need_quiddity p_need_quiddity (defScope st_need_quiddity) := ⟨rfl, rfl, rfl, by decide +kernel, rfl, by decide +kernel, by decide +kernel⟩
def d_need_quiddity : He.DefD := ⟨("need_quiddity", none), "need_quiddity", "need_quiddity", defArgs st_need_quiddity, defBody st_need_quiddity, defScope st_need_quiddity, [], []⟩
/-! ### own_line -/
abbrev st_own_line : Stmt := top 15
def N_own_line : List Str := ["numbers", "start", "steps", "found", "step"]
def p_own_line : List Str := ["numbers", "start", "steps"]
theorem sc_own_line : FnScope N_own_line p_own_line (defScope st_own_line) := ⟨rfl, rfl, rfl, by decide +kernel, rfl, by decide +kernel, by decide +kernel⟩
def d_own_line : He.DefD := ⟨("own_line", none), "own_line", "own_line", defArgs st_own_line, defBody st_own_line, defScope st_own_line, [], []⟩
/-! ### own_frieze -/
abbrev st_own_frieze : Stmt := top 18
def N_own_frieze : List Str := ["quiddity", "start"]
def p_own_frieze : List Str := ["quiddity"]
theorem sc_own_frieze : FnScope N_own_frieze p_own_frieze (defScope st_own_frieze) := ⟨rfl, rfl, rfl, by decide +kernel, rfl, by decide +kernel, by decide +kernel⟩
def d_own_frieze : He.DefD := ⟨("own_frieze", none), "own_frieze", "own_frieze", defArgs st_own_frieze, defBody st_own_frieze, defScope st_own_frieze, [], []⟩
/-! ### frieze_of -/
abbrev st_frieze_of : Stmt := top 19
def N_frieze_of : List Str := ["quiddity", "line"]
def p_frieze_of : List Str := ["quiddity"]
theorem sc_frieze_of : FnScope N_frieze_of p_frieze_of (defScope st_frieze_of) := ⟨rfl, rfl, rfl, by decide +kernel, rfl, by decide +kernel, by decide +kernel⟩
def d_frieze_of : He.DefD := ⟨("frieze_of", none), "frieze_of", "frieze_of", defArgs st_frieze_of, defBody st_frieze_of, defScope st_frieze_of, [], []⟩
/-! ### own_closed -/
abbrev st_own_closed : Stmt := top 20
def N_own_closed : List Str := ["quiddity", "line"]
def p_own_closed : List Str := ["quiddity"]
theorem sc_own_closed : FnScope N_own_closed p_own_closed (defScope st_own_closed) := ⟨rfl, rfl, rfl, by decide +kernel, rfl, by decide +kernel, by decide +kernel⟩
def d_own_closed : He.DefD := ⟨("own_closed", none), "own_closed", "own_closed", defArgs st_own_closed, defBody st_own_closed, defScope st_own_closed, [], []⟩
/-! ### own_whole -/
abbrev st_own_whole : Stmt := top 22
def N_own_whole : List Str := ["quiddity", "line"]
def p_own_whole : List Str := ["quiddity"]
theorem sc_own_whole : FnScope N_own_whole p_own_whole (defScope st_own_whole) := ⟨rfl, rfl, rfl, by decide +kernel, rfl, by decide +kernel, by decide +kernel⟩
def d_own_whole : He.DefD := ⟨("own_whole", none), "own_whole", "own_whole", defArgs st_own_whole, defBody st_own_whole, defScope st_own_whole, [], []⟩
/-! ### is_whole_frieze -/
abbrev st_is_whole_frieze : Stmt := top 23
def N_is_whole_frieze : List Str := ["quiddity"]
def p_is_whole_frieze : List Str := ["quiddity"]
theorem sc_is_whole_frieze : FnScope N_is_whole_frieze p_is_whole_frieze (defScope st_is_whole_frieze) := ⟨rfl, rfl, rfl, by decide +kernel, rfl, by decide +kernel, by decide +kernel⟩
def d_is_whole_frieze : He.DefD := ⟨("is_whole_frieze", none), "is_whole_frieze", "is_whole_frieze", defArgs st_is_whole_frieze, defBody st_is_whole_frieze, defScope st_is_whole_frieze, [], []⟩
/-! ### is_closed -/
abbrev st_is_closed : Stmt := top 21
def N_is_closed : List Str := ["quiddity"]
def p_is_closed : List Str := ["quiddity"]
theorem sc_is_closed : FnScope N_is_closed p_is_closed (defScope st_is_closed) := ⟨rfl, rfl, rfl, by decide +kernel, rfl, by decide +kernel, by decide +kernel⟩
def d_is_closed : He.DefD := ⟨("is_closed", none), "is_closed", "is_closed", defArgs st_is_closed, defBody st_is_closed, defScope st_is_closed, [], []⟩
/-! ### own_entry -/
abbrev st_own_entry : Stmt := top 16
def N_own_entry : List Str := ["numbers", "one", "other"]
def p_own_entry : List Str := ["numbers", "one", "other"]
theorem sc_own_entry : FnScope N_own_entry p_own_entry (defScope st_own_entry) := ⟨rfl, rfl, rfl, by decide +kernel, rfl, by decide +kernel, by decide +kernel⟩
def d_own_entry : He.DefD := ⟨("own_entry", none), "own_entry", "own_entry", defArgs st_own_entry, defBody st_own_entry, defScope st_own_entry, [], []⟩
/-! ### own_trace -/
abbrev st_own_trace : Stmt := top 25
def N_own_trace : List Str := ["numbers", "size"]
def p_own_trace : List Str := ["numbers"]
theorem sc_own_trace : FnScope N_own_trace p_own_trace (defScope st_own_trace) := ⟨rfl, rfl, rfl, by decide +kernel, rfl, by decide +kernel, by decide +kernel⟩
def d_own_trace : He.DefD := ⟨("own_trace", none), "own_trace", "own_trace", defArgs st_own_trace, defBody st_own_trace, defScope st_own_trace, [], []⟩
/-! ### trace_of -/
abbrev st_trace_of : Stmt := top 24
def N_trace_of : List Str := ["quiddity"]
def p_trace_of : List Str := ["quiddity"]
theorem sc_trace_of : FnScope N_trace_of p_trace_of (defScope st_trace_of) := ⟨rfl, rfl, rfl, by decide +kernel, rfl, by decide +kernel, by decide +kernel⟩
def d_trace_of : He.DefD := ⟨("trace_of", none), "trace_of", "trace_of", defArgs st_trace_of, defBody st_trace_of, defScope st_trace_of, [], []⟩
/-! ### _law_mixed -/
abbrev st__law_mixed : Stmt := top 27
def N__law_mixed : List Str := ["cell", "k", "number"]
def p__law_mixed : List Str := ["cell", "k"]
theorem sc__law_mixed : FnScope N__law_mixed p__law_mixed (defScope st__law_mixed) := ⟨rfl, rfl, rfl, by decide +kernel, rfl, by decide +kernel, by decide +kernel⟩
def d__law_mixed : He.DefD := ⟨("_law_mixed", none), "_law_mixed", "_law_mixed", defArgs st__law_mixed, defBody st__law_mixed, defScope st__law_mixed, [], []⟩
/-! ### _law_digit -/
abbrev st__law_digit : Stmt := top 29
def N__law_digit : List Str := ["state", "below", "j", "found"]
def p__law_digit : List Str := ["state", "below"]
theorem sc__law_digit : FnScope N__law_digit p__law_digit (defScope st__law_digit) := ⟨rfl, rfl, rfl, by decide +kernel, rfl, by decide +kernel, by decide +kernel⟩
def d__law_digit : He.DefD := ⟨("_law_digit", none), "_law_digit", "_law_digit", defArgs st__law_digit, defBody st__law_digit, defScope st__law_digit, [], []⟩
/-! ### entry_of -/
abbrev st_entry_of : Stmt := top 17
def N_entry_of : List Str := ["quiddity", "one", "other"]
def p_entry_of : List Str := ["quiddity", "one", "other"]
theorem sc_entry_of : FnScope N_entry_of p_entry_of (defScope st_entry_of) := ⟨rfl, rfl, rfl, by decide +kernel, rfl, by decide +kernel, by decide +kernel⟩
def d_entry_of : He.DefD := ⟨("entry_of", none), "entry_of", "entry_of", defArgs st_entry_of, defBody st_entry_of, defScope st_entry_of, [], []⟩
/-! ### need_numbers -/
abbrev st_need_numbers : Stmt := top 12
def N_need_numbers : List Str := ["numbers", "least", "wrong"]
def p_need_numbers : List Str := ["numbers", "least"]
theorem sc_need_numbers : FnScope N_need_numbers p_need_numbers (defScope st_need_numbers) := ⟨rfl, rfl, rfl, by decide +kernel, rfl, by decide +kernel, by decide +kernel⟩
def d_need_numbers : He.DefD := ⟨("need_numbers", none), "need_numbers", "need_numbers", defArgs st_need_numbers, defBody st_need_numbers, defScope st_need_numbers, [], []⟩
/-! ### own_continuant -/
abbrev st_own_continuant : Stmt := top 10
def N_own_continuant : List Str := ["row", "before", "here", "part"]
def p_own_continuant : List Str := ["row"]
theorem sc_own_continuant : FnScope N_own_continuant p_own_continuant (defScope st_own_continuant) := ⟨rfl, rfl, rfl, by decide +kernel, rfl, by decide +kernel, by decide +kernel⟩
def d_own_continuant : He.DefD := ⟨("own_continuant", none), "own_continuant", "own_continuant", defArgs st_own_continuant, defBody st_own_continuant, defScope st_own_continuant, [], []⟩
/-! ### continuant -/
abbrev st_continuant : Stmt := top 13
def N_continuant : List Str := ["numbers"]
def p_continuant : List Str := ["numbers"]
theorem sc_continuant : FnScope N_continuant p_continuant (defScope st_continuant) := ⟨rfl, rfl, rfl, by decide +kernel, rfl, by decide +kernel, by decide +kernel⟩
def d_continuant : He.DefD := ⟨("continuant", none), "continuant", "continuant", defArgs st_continuant, defBody st_continuant, defScope st_continuant, [], []⟩
/-! ### _law_continuant -/
abbrev st__law_continuant : Stmt := top 33
def N__law_continuant : List Str := ["row", "sums", "part"]
def p__law_continuant : List Str := ["row"]
theorem sc__law_continuant : FnScope N__law_continuant p__law_continuant (defScope st__law_continuant) := ⟨rfl, rfl, rfl, by decide +kernel, rfl, by decide +kernel, by decide +kernel⟩
def d__law_continuant : He.DefD := ⟨("_law_continuant", none), "_law_continuant", "_law_continuant", defArgs st__law_continuant, defBody st__law_continuant, defScope st__law_continuant, [], []⟩
/-! ### _law_refused -/
abbrev st__law_refused : Stmt := top 37
def N__law_refused : List Str := ["quiddity", "many", "caught", "wrong", "bad", "place", "deed", "error"]
def p__law_refused : List Str := ["quiddity", "many"]
theorem sc__law_refused : FnScope N__law_refused p__law_refused (defScope st__law_refused) := ⟨rfl, rfl, rfl, by decide +kernel, rfl, by decide +kernel, by decide +kernel⟩
def d__law_refused : He.DefD := ⟨("_law_refused", none), "_law_refused", "_law_refused", defArgs st__law_refused, defBody st__law_refused, defScope st__law_refused, [], []⟩
/-! ### _law_right -/
abbrev st__law_right : Stmt := top 36
def N__law_right : List Str := ["state", "quiddity", "many", "due", "one", "closes", "whole", "a", "b", "c", "d", "turn", "other", "told", "row", "at", "line", "after", "step", "mark"]
def p__law_right : List Str := ["state", "quiddity"]
theorem sc__law_right : FnScope N__law_right p__law_right (defScope st__law_right) := ⟨rfl, rfl, rfl, by decide +kernel, rfl, by decide +kernel, by decide +kernel⟩
def d__law_right : He.DefD := ⟨("_law_right", none), "_law_right", "_law_right", defArgs st__law_right, defBody st__law_right, defScope st__law_right, [], []⟩
/-! ### _law_quiddity -/
abbrev st__law_quiddity : Stmt := top 31
def N__law_quiddity : List Str := ["state", "most", "found", "turn", "at"]
def p__law_quiddity : List Str := ["state", "most"]
theorem sc__law_quiddity : FnScope N__law_quiddity p__law_quiddity (defScope st__law_quiddity) := ⟨rfl, rfl, rfl, by decide +kernel, rfl, by decide +kernel, by decide +kernel⟩
def d__law_quiddity : He.DefD := ⟨("_law_quiddity", none), "_law_quiddity", "_law_quiddity", defArgs st__law_quiddity, defBody st__law_quiddity, defScope st__law_quiddity, [], []⟩
/-! ### _law_drawn -/
abbrev st__law_drawn : Stmt := top 32
def N__law_drawn : List Str := ["state", "most", "way", "found", "turn", "at", "part"]
def p__law_drawn : List Str := ["state", "most"]
theorem sc__law_drawn : FnScope N__law_drawn p__law_drawn (defScope st__law_drawn) := ⟨rfl, rfl, rfl, by decide +kernel, rfl, by decide +kernel, by decide +kernel⟩
def d__law_drawn : He.DefD := ⟨("_law_drawn", none), "_law_drawn", "_law_drawn", defArgs st__law_drawn, defBody st__law_drawn, defScope st__law_drawn, [], []⟩
/-! ### law -/
abbrev st_law : Stmt := top 38
def N_law : List Str := ["script", "k", "cell", "state"]
def p_law : List Str := ["script"]
theorem sc_law : FnScope N_law p_law (defScope st_law) := ⟨rfl, rfl, rfl, by decide +kernel, rfl, by decide +kernel, by decide +kernel⟩
def d_law : He.DefD := ⟨("law", none), "law", "law", defArgs st_law, defBody st_law, defScope st_law, [], []⟩
abbrev st_BadFrieze_init : Stmt := (cBody (top 4)).getD 0 (.Pass ⟨0, 0, 0, 0⟩)
def d_BadFrieze_init : He.DefD := ⟨("BadFrieze", some "__init__"), "__init__", "BadFrieze.__init__", defArgs st_BadFrieze_init, defBody st_BadFrieze_init, defScope st_BadFrieze_init, [.non], []⟩
abbrev st_BadNumber_init : Stmt := (cBody (top 2)).getD 0 (.Pass ⟨0, 0, 0, 0⟩)
def d_BadNumber_init : He.DefD := ⟨("BadNumber", some "__init__"), "__init__", "BadNumber.__init__", defArgs st_BadNumber_init, defBody st_BadNumber_init, defScope st_BadNumber_init, [.non], []⟩
abbrev st_BadRow_init : Stmt := (cBody (top 3)).getD 0 (.Pass ⟨0, 0, 0, 0⟩)
def d_BadRow_init : He.DefD := ⟨("BadRow", some "__init__"), "__init__", "BadRow.__init__", defArgs st_BadRow_init, defBody st_BadRow_init, defScope st_BadRow_init, [.non], []⟩
/-! ### facts -/
def fs : List (PySem.W.Frag → Bool) := [
  fun K => He.Fa.ok K (.free "sum"),
  fun K => He.Fa.ok K (.free "enumerate"),
  fun K => He.Fa.ok K (.glo "_law_draw"),
  fun K => He.Fa.ok K (.free "len"),
  fun K => He.Fa.ok K (.free "range"),
  fun K => He.Fa.ok K (.glo "_law_table"),
  fun K => He.Fa.ok K (.glo "_law_between"),
  fun K => He.Fa.ok K (.free "tuple"),
  fun K => He.Fa.ok K (.int "MOST_ORDER" (24)),
  fun K => He.Fa.ok K (.free "isinstance"),
  fun K => He.Fa.ok K (.free "bool"),
  fun K => He.Fa.ok K (.free "int"),
  fun K => He.Fa.ok K (.glo "is_whole"),
  fun K => He.Fa.ok K (.int "MOST_PART" (1000)),
  fun K => He.Fa.ok K (.glo "wrong_numbers"),
  xcB "BadFrieze" "place" "WholeError" true "ValueError" "ValueError.__new__" "ValueError.__init__" He.veBase,
  fun K => He.Fa.ok K (.glo "need_quiddity"),
  fun K => He.Fa.ok K (.glo "own_line"),
  fun K => He.Fa.ok K (.glo "own_frieze"),
  fun K => He.Fa.ok K (.glo "frieze_of"),
  fun K => He.Fa.ok K (.free "repr"),
  fun K => He.Fa.ok K (.free "min"),
  fun K => He.Fa.ok K (.free "all"),
  fun K => He.Fa.ok K (.glo "own_closed"),
  fun K => He.Fa.ok K (.glo "own_whole"),
  fun K => He.Fa.ok K (.glo "is_whole_frieze"),
  fun K => He.Fa.ok K (.glo "is_closed"),
  fun K => He.Fa.ok K (.glo "own_entry"),
  fun K => He.Fa.ok K (.glo "own_trace"),
  fun K => He.Fa.ok K (.glo "trace_of"),
  fun K => He.Fa.ok K (.glo "_law_mixed"),
  fun K => He.Fa.ok K (.glo "_law_digit"),
  xcB "BadNumber" "value" "WholeError" true "ValueError" "ValueError.__new__" "ValueError.__init__" He.veBase,
  fun K => He.Fa.ok K (.glo "entry_of"),
  xcB "BadRow" "place" "WholeError" true "ValueError" "ValueError.__new__" "ValueError.__init__" He.veBase,
  fun K => He.Fa.ok K (.glo "need_numbers"),
  fun K => He.Fa.ok K (.glo "own_continuant"),
  fun K => He.Fa.ok K (.glo "continuant"),
  fun K => He.Fa.ok K (.glo "_law_continuant"),
  fun K => He.Fa.ok K (.exm "BadNumber" "BadFrieze" false),
  fun K => He.Fa.ok K (.glo "BadNumber"),
  fun K => He.Fa.ok K (.exm "BadRow" "BadFrieze" false),
  fun K => He.Fa.ok K (.glo "BadRow"),
  fun K => He.Fa.ok K (.exm "BadFrieze" "BadFrieze" true),
  fun K => He.Fa.ok K (.glo "BadFrieze"),
  fun K => He.Fa.ok K (.exm "BadNumber" "BadNumber" true),
  fun K => He.Fa.ok K (.exm "BadRow" "BadNumber" false),
  fun K => He.Fa.ok K (.exm "BadFrieze" "BadNumber" false),
  fun K => He.Fa.ok K (.exm "BadNumber" "BadRow" false),
  fun K => He.Fa.ok K (.exm "BadRow" "BadRow" true),
  fun K => He.Fa.ok K (.exm "BadFrieze" "BadRow" false),
  fun K => He.Fa.ok K (.glo "_law_refused"),
  fun K => He.Fa.ok K (.glo "_law_right"),
  fun K => He.Fa.ok K (.glo "_law_quiddity"),
  fun K => He.Fa.ok K (.free "list"),
  fun K => He.Fa.ok K (.glo "_law_drawn"),
  fun K => He.Fa.ok K (.glo "law")]
def fn : List He.DefD := [d__law_draw, d__law_table, d__law_between, d_is_whole, d_wrong_numbers, d_need_quiddity, d_own_line, d_own_frieze, d_frieze_of, d_own_closed, d_own_whole, d_is_whole_frieze, d_is_closed, d_own_entry, d_own_trace, d_trace_of, d__law_mixed, d__law_digit, d_entry_of, d_need_numbers, d_own_continuant, d_continuant, d__law_continuant, d__law_refused, d__law_right, d__law_quiddity, d__law_drawn, d_law, d_BadFrieze_init, d_BadNumber_init, d_BadRow_init]
structure Fct (K : PySem.W.Frag) (mg : Str → Option Value) : Prop where
  f_sum : mg "sum" = none
  f_enumerate : mg "enumerate" = none
  m__law_draw : mg "_law_draw" = some (.ref (He.ga K "_law_draw"))
  f_len : mg "len" = none
  f_range : mg "range" = none
  m__law_table : mg "_law_table" = some (.ref (He.ga K "_law_table"))
  m__law_between : mg "_law_between" = some (.ref (He.ga K "_law_between"))
  f_tuple : mg "tuple" = none
  i_MOST_ORDER : ∃ t, mg "MOST_ORDER" = some (.int (24) t)
  f_isinstance : mg "isinstance" = none
  f_bool : mg "bool" = none
  f_int : mg "int" = none
  m_is_whole : mg "is_whole" = some (.ref (He.ga K "is_whole"))
  i_MOST_PART : ∃ t, mg "MOST_PART" = some (.int (1000) t)
  m_wrong_numbers : mg "wrong_numbers" = some (.ref (He.ga K "wrong_numbers"))
  x_BadFrieze : MiX.XcTxt K mg "BadFrieze" "place" "WholeError" (He.ga K "BadFrieze") (He.ma K (He.ga K "BadFrieze") "__init__") "ValueError.__new__" "ValueError.__init__" He.veBase
  m_need_quiddity : mg "need_quiddity" = some (.ref (He.ga K "need_quiddity"))
  m_own_line : mg "own_line" = some (.ref (He.ga K "own_line"))
  m_own_frieze : mg "own_frieze" = some (.ref (He.ga K "own_frieze"))
  m_frieze_of : mg "frieze_of" = some (.ref (He.ga K "frieze_of"))
  f_repr : mg "repr" = none
  f_min : mg "min" = none
  f_all : mg "all" = none
  m_own_closed : mg "own_closed" = some (.ref (He.ga K "own_closed"))
  m_own_whole : mg "own_whole" = some (.ref (He.ga K "own_whole"))
  m_is_whole_frieze : mg "is_whole_frieze" = some (.ref (He.ga K "is_whole_frieze"))
  m_is_closed : mg "is_closed" = some (.ref (He.ga K "is_closed"))
  m_own_entry : mg "own_entry" = some (.ref (He.ga K "own_entry"))
  m_own_trace : mg "own_trace" = some (.ref (He.ga K "own_trace"))
  m_trace_of : mg "trace_of" = some (.ref (He.ga K "trace_of"))
  m__law_mixed : mg "_law_mixed" = some (.ref (He.ga K "_law_mixed"))
  m__law_digit : mg "_law_digit" = some (.ref (He.ga K "_law_digit"))
  x_BadNumber : MiX.XcTxt K mg "BadNumber" "value" "WholeError" (He.ga K "BadNumber") (He.ma K (He.ga K "BadNumber") "__init__") "ValueError.__new__" "ValueError.__init__" He.veBase
  m_entry_of : mg "entry_of" = some (.ref (He.ga K "entry_of"))
  x_BadRow : MiX.XcTxt K mg "BadRow" "place" "WholeError" (He.ga K "BadRow") (He.ma K (He.ga K "BadRow") "__init__") "ValueError.__new__" "ValueError.__init__" He.veBase
  m_need_numbers : mg "need_numbers" = some (.ref (He.ga K "need_numbers"))
  m_own_continuant : mg "own_continuant" = some (.ref (He.ga K "own_continuant"))
  m_continuant : mg "continuant" = some (.ref (He.ga K "continuant"))
  m__law_continuant : mg "_law_continuant" = some (.ref (He.ga K "_law_continuant"))
  e_BadNumber_BadFrieze : PySem.W.exmOne K (.ref (He.ga K "BadNumber")) (.ref (He.ga K "BadFrieze")) = some false
  m_BadNumber : mg "BadNumber" = some (.ref (He.ga K "BadNumber"))
  e_BadRow_BadFrieze : PySem.W.exmOne K (.ref (He.ga K "BadRow")) (.ref (He.ga K "BadFrieze")) = some false
  m_BadRow : mg "BadRow" = some (.ref (He.ga K "BadRow"))
  e_BadFrieze_BadFrieze : PySem.W.exmOne K (.ref (He.ga K "BadFrieze")) (.ref (He.ga K "BadFrieze")) = some true
  m_BadFrieze : mg "BadFrieze" = some (.ref (He.ga K "BadFrieze"))
  e_BadNumber_BadNumber : PySem.W.exmOne K (.ref (He.ga K "BadNumber")) (.ref (He.ga K "BadNumber")) = some true
  e_BadRow_BadNumber : PySem.W.exmOne K (.ref (He.ga K "BadRow")) (.ref (He.ga K "BadNumber")) = some false
  e_BadFrieze_BadNumber : PySem.W.exmOne K (.ref (He.ga K "BadFrieze")) (.ref (He.ga K "BadNumber")) = some false
  e_BadNumber_BadRow : PySem.W.exmOne K (.ref (He.ga K "BadNumber")) (.ref (He.ga K "BadRow")) = some false
  e_BadRow_BadRow : PySem.W.exmOne K (.ref (He.ga K "BadRow")) (.ref (He.ga K "BadRow")) = some true
  e_BadFrieze_BadRow : PySem.W.exmOne K (.ref (He.ga K "BadFrieze")) (.ref (He.ga K "BadRow")) = some false
  m__law_refused : mg "_law_refused" = some (.ref (He.ga K "_law_refused"))
  m__law_right : mg "_law_right" = some (.ref (He.ga K "_law_right"))
  m__law_quiddity : mg "_law_quiddity" = some (.ref (He.ga K "_law_quiddity"))
  f_list : mg "list" = none
  m__law_drawn : mg "_law_drawn" = some (.ref (He.ga K "_law_drawn"))
  m_law : mg "law" = some (.ref (He.ga K "law"))
  F__law_draw : ∃ fd, FunD K d__law_draw.name d__law_draw.qual d__law_draw.params d__law_draw.body d__law_draw.scope (d__law_draw.dvs K) (d__law_draw.kws K) (He.fAd K d__law_draw.at_) fd
  F__law_table : ∃ fd, FunD K d__law_table.name d__law_table.qual d__law_table.params d__law_table.body d__law_table.scope (d__law_table.dvs K) (d__law_table.kws K) (He.fAd K d__law_table.at_) fd
  F__law_between : ∃ fd, FunD K d__law_between.name d__law_between.qual d__law_between.params d__law_between.body d__law_between.scope (d__law_between.dvs K) (d__law_between.kws K) (He.fAd K d__law_between.at_) fd
  F_is_whole : ∃ fd, FunD K d_is_whole.name d_is_whole.qual d_is_whole.params d_is_whole.body d_is_whole.scope (d_is_whole.dvs K) (d_is_whole.kws K) (He.fAd K d_is_whole.at_) fd
  F_wrong_numbers : ∃ fd, FunD K d_wrong_numbers.name d_wrong_numbers.qual d_wrong_numbers.params d_wrong_numbers.body d_wrong_numbers.scope (d_wrong_numbers.dvs K) (d_wrong_numbers.kws K) (He.fAd K d_wrong_numbers.at_) fd
  F_need_quiddity : ∃ fd, FunD K d_need_quiddity.name d_need_quiddity.qual d_need_quiddity.params d_need_quiddity.body d_need_quiddity.scope (d_need_quiddity.dvs K) (d_need_quiddity.kws K) (He.fAd K d_need_quiddity.at_) fd
  F_own_line : ∃ fd, FunD K d_own_line.name d_own_line.qual d_own_line.params d_own_line.body d_own_line.scope (d_own_line.dvs K) (d_own_line.kws K) (He.fAd K d_own_line.at_) fd
  F_own_frieze : ∃ fd, FunD K d_own_frieze.name d_own_frieze.qual d_own_frieze.params d_own_frieze.body d_own_frieze.scope (d_own_frieze.dvs K) (d_own_frieze.kws K) (He.fAd K d_own_frieze.at_) fd
  F_frieze_of : ∃ fd, FunD K d_frieze_of.name d_frieze_of.qual d_frieze_of.params d_frieze_of.body d_frieze_of.scope (d_frieze_of.dvs K) (d_frieze_of.kws K) (He.fAd K d_frieze_of.at_) fd
  F_own_closed : ∃ fd, FunD K d_own_closed.name d_own_closed.qual d_own_closed.params d_own_closed.body d_own_closed.scope (d_own_closed.dvs K) (d_own_closed.kws K) (He.fAd K d_own_closed.at_) fd
  F_own_whole : ∃ fd, FunD K d_own_whole.name d_own_whole.qual d_own_whole.params d_own_whole.body d_own_whole.scope (d_own_whole.dvs K) (d_own_whole.kws K) (He.fAd K d_own_whole.at_) fd
  F_is_whole_frieze : ∃ fd, FunD K d_is_whole_frieze.name d_is_whole_frieze.qual d_is_whole_frieze.params d_is_whole_frieze.body d_is_whole_frieze.scope (d_is_whole_frieze.dvs K) (d_is_whole_frieze.kws K) (He.fAd K d_is_whole_frieze.at_) fd
  F_is_closed : ∃ fd, FunD K d_is_closed.name d_is_closed.qual d_is_closed.params d_is_closed.body d_is_closed.scope (d_is_closed.dvs K) (d_is_closed.kws K) (He.fAd K d_is_closed.at_) fd
  F_own_entry : ∃ fd, FunD K d_own_entry.name d_own_entry.qual d_own_entry.params d_own_entry.body d_own_entry.scope (d_own_entry.dvs K) (d_own_entry.kws K) (He.fAd K d_own_entry.at_) fd
  F_own_trace : ∃ fd, FunD K d_own_trace.name d_own_trace.qual d_own_trace.params d_own_trace.body d_own_trace.scope (d_own_trace.dvs K) (d_own_trace.kws K) (He.fAd K d_own_trace.at_) fd
  F_trace_of : ∃ fd, FunD K d_trace_of.name d_trace_of.qual d_trace_of.params d_trace_of.body d_trace_of.scope (d_trace_of.dvs K) (d_trace_of.kws K) (He.fAd K d_trace_of.at_) fd
  F__law_mixed : ∃ fd, FunD K d__law_mixed.name d__law_mixed.qual d__law_mixed.params d__law_mixed.body d__law_mixed.scope (d__law_mixed.dvs K) (d__law_mixed.kws K) (He.fAd K d__law_mixed.at_) fd
  F__law_digit : ∃ fd, FunD K d__law_digit.name d__law_digit.qual d__law_digit.params d__law_digit.body d__law_digit.scope (d__law_digit.dvs K) (d__law_digit.kws K) (He.fAd K d__law_digit.at_) fd
  F_entry_of : ∃ fd, FunD K d_entry_of.name d_entry_of.qual d_entry_of.params d_entry_of.body d_entry_of.scope (d_entry_of.dvs K) (d_entry_of.kws K) (He.fAd K d_entry_of.at_) fd
  F_need_numbers : ∃ fd, FunD K d_need_numbers.name d_need_numbers.qual d_need_numbers.params d_need_numbers.body d_need_numbers.scope (d_need_numbers.dvs K) (d_need_numbers.kws K) (He.fAd K d_need_numbers.at_) fd
  F_own_continuant : ∃ fd, FunD K d_own_continuant.name d_own_continuant.qual d_own_continuant.params d_own_continuant.body d_own_continuant.scope (d_own_continuant.dvs K) (d_own_continuant.kws K) (He.fAd K d_own_continuant.at_) fd
  F_continuant : ∃ fd, FunD K d_continuant.name d_continuant.qual d_continuant.params d_continuant.body d_continuant.scope (d_continuant.dvs K) (d_continuant.kws K) (He.fAd K d_continuant.at_) fd
  F__law_continuant : ∃ fd, FunD K d__law_continuant.name d__law_continuant.qual d__law_continuant.params d__law_continuant.body d__law_continuant.scope (d__law_continuant.dvs K) (d__law_continuant.kws K) (He.fAd K d__law_continuant.at_) fd
  F__law_refused : ∃ fd, FunD K d__law_refused.name d__law_refused.qual d__law_refused.params d__law_refused.body d__law_refused.scope (d__law_refused.dvs K) (d__law_refused.kws K) (He.fAd K d__law_refused.at_) fd
  F__law_right : ∃ fd, FunD K d__law_right.name d__law_right.qual d__law_right.params d__law_right.body d__law_right.scope (d__law_right.dvs K) (d__law_right.kws K) (He.fAd K d__law_right.at_) fd
  F__law_quiddity : ∃ fd, FunD K d__law_quiddity.name d__law_quiddity.qual d__law_quiddity.params d__law_quiddity.body d__law_quiddity.scope (d__law_quiddity.dvs K) (d__law_quiddity.kws K) (He.fAd K d__law_quiddity.at_) fd
  F__law_drawn : ∃ fd, FunD K d__law_drawn.name d__law_drawn.qual d__law_drawn.params d__law_drawn.body d__law_drawn.scope (d__law_drawn.dvs K) (d__law_drawn.kws K) (He.fAd K d__law_drawn.at_) fd
  F_law : ∃ fd, FunD K d_law.name d_law.qual d_law.params d_law.body d_law.scope (d_law.dvs K) (d_law.kws K) (He.fAd K d_law.at_) fd
def mt_BadFrieze : Str → Option Bool := fun c => if c = "BadNumber" then some false else if c = "BadRow" then some false else if c = "BadFrieze" then some true else none
theorem mt_BadFrieze_ok {K : PySem.W.Frag} {mg : Str → Option Value} (c : Fct K mg) : ∀ c' b, mt_BadFrieze c' = some b → ∀ C, mg c' = some (.ref C) → PySem.W.exmOne K (.ref C) (.ref (He.ga K "BadFrieze")) = some b := by
  intro x b h C hC
  unfold mt_BadFrieze at h
  split at h
  · rename_i e; subst e; cases h; rw [c.m_BadNumber] at hC; cases hC; exact c.e_BadNumber_BadFrieze
  split at h
  · rename_i e; subst e; cases h; rw [c.m_BadRow] at hC; cases hC; exact c.e_BadRow_BadFrieze
  split at h
  · rename_i e; subst e; cases h; rw [c.m_BadFrieze] at hC; cases hC; exact c.e_BadFrieze_BadFrieze
  cases h
def mt_BadNumber : Str → Option Bool := fun c => if c = "BadNumber" then some true else if c = "BadRow" then some false else if c = "BadFrieze" then some false else none
theorem mt_BadNumber_ok {K : PySem.W.Frag} {mg : Str → Option Value} (c : Fct K mg) : ∀ c' b, mt_BadNumber c' = some b → ∀ C, mg c' = some (.ref C) → PySem.W.exmOne K (.ref C) (.ref (He.ga K "BadNumber")) = some b := by
  intro x b h C hC
  unfold mt_BadNumber at h
  split at h
  · rename_i e; subst e; cases h; rw [c.m_BadNumber] at hC; cases hC; exact c.e_BadNumber_BadNumber
  split at h
  · rename_i e; subst e; cases h; rw [c.m_BadRow] at hC; cases hC; exact c.e_BadRow_BadNumber
  split at h
  · rename_i e; subst e; cases h; rw [c.m_BadFrieze] at hC; cases hC; exact c.e_BadFrieze_BadNumber
  cases h
def mt_BadRow : Str → Option Bool := fun c => if c = "BadNumber" then some false else if c = "BadRow" then some true else if c = "BadFrieze" then some false else none
theorem mt_BadRow_ok {K : PySem.W.Frag} {mg : Str → Option Value} (c : Fct K mg) : ∀ c' b, mt_BadRow c' = some b → ∀ C, mg c' = some (.ref C) → PySem.W.exmOne K (.ref C) (.ref (He.ga K "BadRow")) = some b := by
  intro x b h C hC
  unfold mt_BadRow at h
  split at h
  · rename_i e; subst e; cases h; rw [c.m_BadNumber] at hC; cases hC; exact c.e_BadNumber_BadRow
  split at h
  · rename_i e; subst e; cases h; rw [c.m_BadRow] at hC; cases hC; exact c.e_BadRow_BadRow
  split at h
  · rename_i e; subst e; cases h; rw [c.m_BadFrieze] at hC; cases hC; exact c.e_BadFrieze_BadRow
  cases h
noncomputable def b__law_draw_0 : Fs := sRet (eDict [(eC (.str "left"), eIf (tOf (eOp gGe (eVar 0) (eOp gPow (eC (.int 10)) (eC (.int 18))))) (eVar 0) (eC (.int 0))), (eC (.str "cell"), eVar 0), (eC (.str "turns"), eOp gMul (eC (.int 1000)) (eVar 1))])
noncomputable def b__law_draw : Fs := b__law_draw_0
noncomputable def s__law_draw : List D → Hd → Res D := runF 2 b__law_draw
theorem ok__law_draw {P : Program} {w : World} {K : PySem.W.Frag} {mg : Str → Option Value} {base : Heap} (c : Fct K mg) : FDx P w K mg base d__law_draw p__law_draw 1 s__law_draw := by
  refine fd_ok (k := 0) (N := N__law_draw) (fb := b__law_draw) c.F__law_draw sc__law_draw fun cdv A outer s H E hr => ?_
  exact dss_one (f := b__law_draw_0) (ds_ret (de_dict (dps_cons (de_str) (de_if (dt_cmp (od_ge) (de_var 0) (de_op (od_pow) (de_int) (de_int)) (by first | rfl | exact nomark _)) (de_var 0) (de_int)) (dps_cons (de_str) (de_var 0) (dps_cons (de_str) (de_op (od_mul rfl) (de_int) (de_var 1)) (dps_nil))))))
theorem bp__law_draw {K : PySem.W.Frag} (fd : FuncData) (F : FunD K d__law_draw.name d__law_draw.qual d__law_draw.params d__law_draw.body d__law_draw.scope (d__law_draw.dvs K) (d__law_draw.kws K) (He.fAd K d__law_draw.at_) fd) : Bnd K fd p__law_draw 2 [] (fun ds _ => ds) :=
  bnd_pos F rfl (fun _ _ _ _ _ _ us hl => match us, hl with | [_, _], _ => rfl) 2 rfl
noncomputable def b__law_table_0 : Fs := sAsg (eTup (aCons (eC (.int 1)) (aCons (eC (.int 0)) (aCons (eC (.int 0)) (aCons (eC (.int 1)) aNil))))) (gUnp 4 (gsCons (gSet 1) (gsCons (gSet 2) (gsCons (gSet 3) (gsCons (gSet 4) gsNil)))))
noncomputable def b__law_table_1 : Fs := sFor (iOf (eVar 0)) (gSet 5) (sAsg (eTup (aCons (eOp gAdd (eOp gMul (eVar 1) (eVar 5)) (eVar 2)) (aCons (eOp gSub (eC (.int 0)) (eVar 1)) (aCons (eOp gAdd (eOp gMul (eVar 3) (eVar 5)) (eVar 4)) (aCons (eOp gSub (eC (.int 0)) (eVar 3)) aNil))))) (gUnp 4 (gsCons (gSet 1) (gsCons (gSet 2) (gsCons (gSet 3) (gsCons (gSet 4) gsNil))))))
noncomputable def b__law_table_2 : Fs := sRet (eTup (aCons (eVar 1) (aCons (eVar 2) (aCons (eVar 3) (aCons (eVar 4) aNil)))))
noncomputable def b__law_table : Fs := sSeq b__law_table_0 (sSeq b__law_table_1 (b__law_table_2))
noncomputable def s__law_table : List D → Hd → Res D := runF 6 b__law_table
theorem ok__law_table {P : Program} {w : World} {K : PySem.W.Frag} {mg : Str → Option Value} {base : Heap} (c : Fct K mg) : FDx P w K mg base d__law_table p__law_table 1 s__law_table := by
  refine fd_ok (k := 0) (N := N__law_table) (fb := b__law_table) c.F__law_table sc__law_table fun cdv A outer s H E hr => ?_
  refine dss_cons (f := b__law_table_0) (ds_asg (de_tup (da_cons (de_int) (da_cons (de_int) (da_cons (de_int) (da_cons (de_int) (da_nil)))))) (dg_unp rfl rfl (dgs_cons (dg_name 1 sc__law_table.nd) (dgs_cons (dg_name 2 sc__law_table.nd) (dgs_cons (dg_name 3 sc__law_table.nd) (dgs_cons (dg_name 4 sc__law_table.nd) (dgs_nil))))))) ?_
  refine dss_cons (f := b__law_table_1) (ds_for (passes_of rfl) rfl (di_of rfl (de_var 0)) (dg_name 5 sc__law_table.nd) (dss_one (ds_asg (de_tup (da_cons (de_op (od_add rfl) (de_op (od_mul rfl) (de_var 1) (de_var 5)) (de_var 2)) (da_cons (de_op (od_sub) (de_int) (de_var 1)) (da_cons (de_op (od_add rfl) (de_op (od_mul rfl) (de_var 3) (de_var 5)) (de_var 4)) (da_cons (de_op (od_sub) (de_int) (de_var 3)) (da_nil)))))) (dg_unp rfl rfl (dgs_cons (dg_name 1 sc__law_table.nd) (dgs_cons (dg_name 2 sc__law_table.nd) (dgs_cons (dg_name 3 sc__law_table.nd) (dgs_cons (dg_name 4 sc__law_table.nd) (dgs_nil))))))))) ?_
  exact dss_one (f := b__law_table_2) (ds_ret (de_tup (da_cons (de_var 1) (da_cons (de_var 2) (da_cons (de_var 3) (da_cons (de_var 4) (da_nil)))))))
theorem bp__law_table {K : PySem.W.Frag} (fd : FuncData) (F : FunD K d__law_table.name d__law_table.qual d__law_table.params d__law_table.body d__law_table.scope (d__law_table.dvs K) (d__law_table.kws K) (He.fAd K d__law_table.at_) fd) : Bnd K fd p__law_table 1 [] (fun ds _ => ds) :=
  bnd_pos F rfl (fun _ _ _ _ _ _ us hl => match us, hl with | [_], _ => rfl) 1 rfl
noncomputable def b__law_between_0 : Fs := sIf (tOf (eOp gEq (eVar 1) (eVar 2))) (sRet (eC (.int 0))) sNil
noncomputable def b__law_between_1 : Fs := sRet (eOp gIx (eCall s__law_table (aCons (eLc (iRng2D (aCons (eOp gAdd (eVar 1) (eC (.int 1))) (aCons (eVar 2) aNil))) (gSet 3) tYesD (eOp gIx (eVar 0) (eOp gMod (eVar 3) (eCall gLen (aCons (eVar 0) aNil)))) [3]) aNil)) (eC (.int 0)))
noncomputable def b__law_between : Fs := sSeq b__law_between_0 (b__law_between_1)
noncomputable def s__law_between : List D → Hd → Res D := runF 4 b__law_between
theorem ok__law_between {P : Program} {w : World} {K : PySem.W.Frag} {mg : Str → Option Value} {base : Heap} (c : Fct K mg) : FDx P w K mg base d__law_between p__law_between 2 s__law_between := by
  refine fd_ok (k := 1) (N := N__law_between) (fb := b__law_between) c.F__law_between sc__law_between fun cdv A outer s H E hr => ?_
  refine dss_cons (f := b__law_between_0) (ds_if (dt_cmp (od_eq rfl hr.u64) (de_var 1) (de_var 2) (by first | rfl | exact nomark _)) (dss_one (ds_ret (de_int))) (dss_nil)) ?_
  exact dss_one (f := b__law_between_1) (ds_ret (de_ix (ixd rfl hr.u1) (de_call (gD := fun ds _ => ds) (ok__law_table c) (hr.mono (by decide)) rfl c.m__law_table (takes_of rfl rfl rfl rfl) bp__law_table (da_cons (de_lc (own := [("mark", 3)]) (ts := [3]) rfl sc__law_between.nd (di_rng2 rfl c.f_range (da_cons (de_op (od_add rfl) (de_var 1) (de_int)) (da_cons (de_var 2) (da_nil)))) (blkOk_by (N := N__law_between) (sc := defScope st__law_between) (by decide +kernel)) (by decide) (fun _ _ _ _ _ => dg_name 3 sc__law_between.nd) (fun _ _ _ _ _ => dts_nil) (fun _ _ _ _ _ => de_ix (ixd rfl hr.u1) (de_var 0) (de_op (od_mod) (de_var 3) (de_callB (cd_len rfl) rfl c.f_len PyProof.Rows.Boot.«len» (da_cons (de_var 0) (da_nil)))))) (da_nil)) (al_cons (al_nil))) (de_int)))
theorem bp__law_between {K : PySem.W.Frag} (fd : FuncData) (F : FunD K d__law_between.name d__law_between.qual d__law_between.params d__law_between.body d__law_between.scope (d__law_between.dvs K) (d__law_between.kws K) (He.fAd K d__law_between.at_) fd) : Bnd K fd p__law_between 3 [] (fun ds _ => ds) :=
  bnd_pos F rfl (fun _ _ _ _ _ _ us hl => match us, hl with | [_, _, _], _ => rfl) 3 rfl
noncomputable def b_is_whole_0 : Fs := sRet (eAnd (eCall gIsi (aCons (eVar 0) (aCons (eC (.ty "int")) aNil))) (eAnd (eNot (eCall gIsi (aCons (eVar 0) (aCons (eC (.ty "bool")) aNil)))) (eChain gLe gLe (eVar 1) (eVar 0) (eVar 2))))
noncomputable def b_is_whole : Fs := b_is_whole_0
noncomputable def s_is_whole : List D → Hd → Res D := runF 3 b_is_whole
theorem ok_is_whole {P : Program} {w : World} {K : PySem.W.Frag} {mg : Str → Option Value} {base : Heap} (c : Fct K mg) : FDx P w K mg base d_is_whole p_is_whole 1 s_is_whole := by
  refine fd_ok (k := 0) (N := N_is_whole) (fb := b_is_whole) c.F_is_whole sc_is_whole fun cdv A outer s H E hr => ?_
  exact dss_one (f := b_is_whole_0) (ds_ret (de_and (de_callB (cd_isi rfl) rfl c.f_isinstance PyProof.Rows.Boot.«isinstance» (da_cons (de_var 0) (da_cons (de_type rfl c.f_int PyProof.Rows.Boot.«int») (da_nil)))) (de_and (de_not (de_callB (cd_isi rfl) rfl c.f_isinstance PyProof.Rows.Boot.«isinstance» (da_cons (de_var 0) (da_cons (de_type rfl c.f_bool PyProof.Rows.Boot.«bool») (da_nil))))) (de_one (de_chain (od_le) (od_le) (de_var 1) (de_var 0) (de_var 2))))))
theorem bp_is_whole {K : PySem.W.Frag} (fd : FuncData) (F : FunD K d_is_whole.name d_is_whole.qual d_is_whole.params d_is_whole.body d_is_whole.scope (d_is_whole.dvs K) (d_is_whole.kws K) (He.fAd K d_is_whole.at_) fd) : Bnd K fd p_is_whole 3 [] (fun ds _ => ds) :=
  bnd_pos F rfl (fun _ _ _ _ _ _ us hl => match us, hl with | [_, _, _], _ => rfl) 3 rfl
noncomputable def b_wrong_numbers_0 : Fs := sIf (tOrD (tNotD (tOf (eCall gIsi (aCons (eVar 0) (aCons (eC (.ty "tuple")) aNil))))) (tNotD (tOf (eChain gLe gLe (eVar 1) (eCall gLen (aCons (eVar 0) aNil)) (eC (.int (24))))))) (sRet (eLst (aCons (eC .non) aNil))) sNil
noncomputable def b_wrong_numbers_1 : Fs := sRet (eLc (iEnm (eVar 0)) (gUnp 2 (gsCons (gSet 2) (gsCons (gSet 3) gsNil))) (tNotD (tOf (eCall s_is_whole (aCons (eVar 3) (aCons (eOp gSub (eC (.int 0)) (eC (.int (1000)))) (aCons (eC (.int (1000))) aNil)))))) (eVar 2) [2, 3])
noncomputable def b_wrong_numbers : Fs := sSeq b_wrong_numbers_0 (b_wrong_numbers_1)
noncomputable def s_wrong_numbers : List D → Hd → Res D := runF 4 b_wrong_numbers
theorem ok_wrong_numbers {P : Program} {w : World} {K : PySem.W.Frag} {mg : Str → Option Value} {base : Heap} (c : Fct K mg) : FDx P w K mg base d_wrong_numbers p_wrong_numbers 2 s_wrong_numbers := by
  refine fd_ok (k := 1) (N := N_wrong_numbers) (fb := b_wrong_numbers) c.F_wrong_numbers sc_wrong_numbers fun cdv A outer s H E hr => ?_
  refine dss_cons (f := b_wrong_numbers_0) (ds_if (dt_bool (dw_or (dt_not (dt_val (de_callB (cd_isi rfl) rfl c.f_isinstance PyProof.Rows.Boot.«isinstance» (da_cons (de_var 0) (da_cons (de_type rfl c.f_tuple PyProof.Rows.Boot.«tuple») (da_nil)))))) (dw_or1 (dt_not (dt_chain (od_le) (od_le) (de_var 1) (de_callB (cd_len rfl) rfl c.f_len PyProof.Rows.Boot.«len» (da_cons (de_var 0) (da_nil))) (de_gint rfl c.i_MOST_ORDER)))))) (dss_one (ds_ret (de_lst (da_cons (de_non) (da_nil))))) (dss_nil)) ?_
  exact dss_one (f := b_wrong_numbers_1) (ds_ret (de_lc (own := [("place", 2), ("part", 3)]) (ts := [2, 3]) rfl sc_wrong_numbers.nd (di_enum rfl rfl c.f_enumerate (de_var 0)) (blkOk_by (N := N_wrong_numbers) (sc := defScope st_wrong_numbers) (by decide +kernel)) (by decide) (fun _ _ _ _ _ => dg_unp rfl rfl (dgs_cons (dg_name 2 sc_wrong_numbers.nd) (dgs_cons (dg_name 3 sc_wrong_numbers.nd) (dgs_nil)))) (fun _ _ _ _ _ => dts_one (dt_not (dt_val (de_call (gD := fun ds _ => ds) (ok_is_whole c) (hr.mono (by decide)) rfl c.m_is_whole takes_W0 bp_is_whole (da_cons (de_var 3) (da_cons (de_op (od_sub) (de_int) (de_gint rfl c.i_MOST_PART)) (da_cons (de_gint rfl c.i_MOST_PART) (da_nil)))) (al_cons (al_cons (al_cons (al_nil)))))))) (fun _ _ _ _ _ => de_var 2)))
theorem bp_wrong_numbers {K : PySem.W.Frag} (fd : FuncData) (F : FunD K d_wrong_numbers.name d_wrong_numbers.qual d_wrong_numbers.params d_wrong_numbers.body d_wrong_numbers.scope (d_wrong_numbers.dvs K) (d_wrong_numbers.kws K) (He.fAd K d_wrong_numbers.at_) fd) : Bnd K fd p_wrong_numbers 2 [] (fun ds _ => ds) :=
  bnd_pos F rfl (fun _ _ _ _ _ _ us hl => match us, hl with | [_, _], _ => rfl) 2 rfl
noncomputable def b_need_quiddity_0 : Fs := sAsg (eCall s_wrong_numbers (aCons (eVar 0) (aCons (eC (.int 3)) aNil))) (gSet 1)
noncomputable def b_need_quiddity_1 : Fs := sIf (tOf (eOp gNe (eVar 1) (eLst aNil))) (sRaise "BadFrieze" "place" (eOp gIx (eVar 1) (eC (.int 0)))) sNil
noncomputable def b_need_quiddity : Fs := sSeq b_need_quiddity_0 (b_need_quiddity_1)
noncomputable def s_need_quiddity : List D → Hd → Res D := runF 2 b_need_quiddity
theorem ok_need_quiddity {P : Program} {w : World} {K : PySem.W.Frag} {mg : Str → Option Value} {base : Heap} (c : Fct K mg) : FDx P w K mg base d_need_quiddity p_need_quiddity 3 s_need_quiddity := by
  refine fd_ok (k := 2) (N := N_need_quiddity) (fb := b_need_quiddity) c.F_need_quiddity sc_need_quiddity fun cdv A outer s H E hr => ?_
  refine dss_cons (f := b_need_quiddity_0) (ds_set 1 sc_need_quiddity.nd (de_call (gD := fun ds _ => ds) (ok_wrong_numbers c) (hr.mono (by decide)) rfl c.m_wrong_numbers (takes_of rfl rfl rfl rfl) bp_wrong_numbers (da_cons (de_var 0) (da_cons (de_int) (da_nil))) (al_cons (al_cons (al_nil)))) rfl (Or.inl rfl)) ?_
  exact dss_one (f := b_need_quiddity_1) (ds_if (dt_cmp (od_ne rfl hr.u64) (de_var 1) (de_lst (da_nil)) (by first | rfl | exact nomark _)) (dss_one (ds_raise rfl rfl XBV c.x_BadFrieze hr (takes_of rfl rfl rfl rfl) (de_ix (ixd rfl hr.u1) (de_var 1) (de_int)) rfl)) (dss_nil))
theorem bp_need_quiddity {K : PySem.W.Frag} (fd : FuncData) (F : FunD K d_need_quiddity.name d_need_quiddity.qual d_need_quiddity.params d_need_quiddity.body d_need_quiddity.scope (d_need_quiddity.dvs K) (d_need_quiddity.kws K) (He.fAd K d_need_quiddity.at_) fd) : Bnd K fd p_need_quiddity 1 [] (fun ds _ => ds) :=
  bnd_pos F rfl (fun _ _ _ _ _ _ us hl => match us, hl with | [_], _ => rfl) 1 rfl
noncomputable def b_own_line_0 : Fs := sAsg (eLst (aCons (eC (.int 0)) (aCons (eC (.int 1)) aNil))) (gSet 3)
noncomputable def b_own_line_1 : Fs := sFor (iRng2D (aCons (eC (.int 1)) (aCons (eVar 2) aNil))) (gSet 4) (sExpr (eMeth "list" mAppend (eVar 3) (aCons (eOp gSub (eOp gMul (eOp gIx (eVar 0) (eOp gMod (eOp gAdd (eVar 1) (eVar 4)) (eCall gLen (aCons (eVar 0) aNil)))) (eOp gIx (eVar 3) (eUn gNeg (eC (.int 1))))) (eOp gIx (eVar 3) (eUn gNeg (eC (.int 2))))) aNil)))
noncomputable def b_own_line_2 : Fs := sRet (eSl (eVar 3) oNone (oSome (eOp gAdd (eVar 2) (eC (.int 1)))))
noncomputable def b_own_line : Fs := sSeq b_own_line_0 (sSeq b_own_line_1 (b_own_line_2))
noncomputable def s_own_line : List D → Hd → Res D := runF 5 b_own_line
theorem ok_own_line {P : Program} {w : World} {K : PySem.W.Frag} {mg : Str → Option Value} {base : Heap} (c : Fct K mg) : FDx P w K mg base d_own_line p_own_line 1 s_own_line := by
  refine fd_ok (k := 0) (N := N_own_line) (fb := b_own_line) c.F_own_line sc_own_line fun cdv A outer s H E hr => ?_
  refine dss_cons (f := b_own_line_0) (ds_set 3 sc_own_line.nd (de_lst (da_cons (de_int) (da_cons (de_int) (da_nil)))) rfl (Or.inl rfl)) ?_
  refine dss_cons (f := b_own_line_1) (ds_for (passes_of rfl) rfl (di_rng2 rfl c.f_range (da_cons (de_int) (da_cons (de_var 2) (da_nil)))) (dg_name 4 sc_own_line.nd) (dss_one (ds_expr (de_meth rfl F.plainAttrs_list F.slot_list_append F.type_list_append md_append (de_var 3) (da_cons (de_op (od_sub) (de_op (od_mul rfl) (de_ix (ixd rfl hr.u1) (de_var 0) (de_op (od_mod) (de_op (od_add rfl) (de_var 1) (de_var 4)) (de_callB (cd_len rfl) rfl c.f_len PyProof.Rows.Boot.«len» (da_cons (de_var 0) (da_nil))))) (de_ix (ixd rfl hr.u1) (de_var 3) (de_un ud_neg (de_int)))) (de_ix (ixd rfl hr.u1) (de_var 3) (de_un ud_neg (de_int)))) (da_nil)))))) ?_
  exact dss_one (f := b_own_line_2) (ds_ret (de_sl rfl (de_var 3) (do_none) (do_some (de_op (od_add rfl) (de_var 2) (de_int)))))
theorem bp_own_line {K : PySem.W.Frag} (fd : FuncData) (F : FunD K d_own_line.name d_own_line.qual d_own_line.params d_own_line.body d_own_line.scope (d_own_line.dvs K) (d_own_line.kws K) (He.fAd K d_own_line.at_) fd) : Bnd K fd p_own_line 3 [] (fun ds _ => ds) :=
  bnd_pos F rfl (fun _ _ _ _ _ _ us hl => match us, hl with | [_, _, _], _ => rfl) 3 rfl
noncomputable def b_own_frieze_0 : Fs := sRet (eLc (iRng1D (aCons (eCall gLen (aCons (eVar 0) aNil)) aNil)) (gSet 1) tYesD (eCall s_own_line (aCons (eVar 0) (aCons (eVar 1) (aCons (eCall gLen (aCons (eVar 0) aNil)) aNil)))) [1])
noncomputable def b_own_frieze : Fs := b_own_frieze_0
noncomputable def s_own_frieze : List D → Hd → Res D := runF 2 b_own_frieze
theorem ok_own_frieze {P : Program} {w : World} {K : PySem.W.Frag} {mg : Str → Option Value} {base : Heap} (c : Fct K mg) : FDx P w K mg base d_own_frieze p_own_frieze 2 s_own_frieze := by
  refine fd_ok (k := 1) (N := N_own_frieze) (fb := b_own_frieze) c.F_own_frieze sc_own_frieze fun cdv A outer s H E hr => ?_
  exact dss_one (f := b_own_frieze_0) (ds_ret (de_lc (own := [("start", 1)]) (ts := [1]) rfl sc_own_frieze.nd (di_rng1 rfl c.f_range (da_cons (de_callB (cd_len rfl) rfl c.f_len PyProof.Rows.Boot.«len» (da_cons (de_var 0) (da_nil))) (da_nil))) (blkOk_by (N := N_own_frieze) (sc := defScope st_own_frieze) (by decide +kernel)) (by decide) (fun _ _ _ _ _ => dg_name 1 sc_own_frieze.nd) (fun _ _ _ _ _ => dts_nil) (fun _ _ _ _ _ => de_call (gD := fun ds _ => ds) (ok_own_line c) (hr.mono (by decide)) rfl c.m_own_line takes_W0 bp_own_line (da_cons (de_var 0) (da_cons (de_var 1) (da_cons (de_callB (cd_len rfl) rfl c.f_len PyProof.Rows.Boot.«len» (da_cons (de_var 0) (da_nil))) (da_nil)))) (al_cons (al_cons (al_cons (al_nil)))))))
theorem bp_own_frieze {K : PySem.W.Frag} (fd : FuncData) (F : FunD K d_own_frieze.name d_own_frieze.qual d_own_frieze.params d_own_frieze.body d_own_frieze.scope (d_own_frieze.dvs K) (d_own_frieze.kws K) (He.fAd K d_own_frieze.at_) fd) : Bnd K fd p_own_frieze 1 [] (fun ds _ => ds) :=
  bnd_pos F rfl (fun _ _ _ _ _ _ us hl => match us, hl with | [_], _ => rfl) 1 rfl
noncomputable def b_frieze_of_0 : Fs := sExpr (eCall s_need_quiddity (aCons (eVar 0) aNil))
noncomputable def b_frieze_of_1 : Fs := sRet (eCall gTuple (aCons (eLc (iOf (eCall s_own_frieze (aCons (eVar 0) aNil))) (gSet 1) tYesD (eCall gTuple (aCons (eVar 1) aNil)) [1]) aNil))
noncomputable def b_frieze_of : Fs := sSeq b_frieze_of_0 (b_frieze_of_1)
noncomputable def s_frieze_of : List D → Hd → Res D := runF 2 b_frieze_of
theorem ok_frieze_of {P : Program} {w : World} {K : PySem.W.Frag} {mg : Str → Option Value} {base : Heap} (c : Fct K mg) : FDx P w K mg base d_frieze_of p_frieze_of 4 s_frieze_of := by
  refine fd_ok (k := 3) (N := N_frieze_of) (fb := b_frieze_of) c.F_frieze_of sc_frieze_of fun cdv A outer s H E hr => ?_
  refine dss_cons (f := b_frieze_of_0) (ds_expr (de_call (gD := fun ds _ => ds) (ok_need_quiddity c) (hr.mono (by decide)) rfl c.m_need_quiddity (takes_of rfl rfl rfl rfl) bp_need_quiddity (da_cons (de_var 0) (da_nil)) (al_cons (al_nil)))) ?_
  exact dss_one (f := b_frieze_of_1) (ds_ret (de_callT (cd_tuple rfl) rfl c.f_tuple PyProof.Rows.Boot.«tuple» (da_cons (de_lc (own := [("line", 1)]) (ts := [1]) rfl sc_frieze_of.nd (di_of rfl (de_call (gD := fun ds _ => ds) (ok_own_frieze c) (hr.mono (by decide)) rfl c.m_own_frieze (takes_of rfl rfl rfl rfl) bp_own_frieze (da_cons (de_var 0) (da_nil)) (al_cons (al_nil)))) (blkOk_by (N := N_frieze_of) (sc := defScope st_frieze_of) (by decide +kernel)) (by decide) (fun _ _ _ _ _ => dg_name 1 sc_frieze_of.nd) (fun _ _ _ _ _ => dts_nil) (fun _ _ _ _ _ => de_callT (cd_tuple rfl) rfl c.f_tuple PyProof.Rows.Boot.«tuple» (da_cons (de_var 1) (da_nil)))) (da_nil))))
theorem bp_frieze_of {K : PySem.W.Frag} (fd : FuncData) (F : FunD K d_frieze_of.name d_frieze_of.qual d_frieze_of.params d_frieze_of.body d_frieze_of.scope (d_frieze_of.dvs K) (d_frieze_of.kws K) (He.fAd K d_frieze_of.at_) fd) : Bnd K fd p_frieze_of 1 [] (fun ds _ => ds) :=
  bnd_pos F rfl (fun _ _ _ _ _ _ us hl => match us, hl with | [_], _ => rfl) 1 rfl
theorem bk_frieze_of_0_quiddity {K : PySem.W.Frag} (fd : FuncData) (F : FunD K d_frieze_of.name d_frieze_of.qual d_frieze_of.params d_frieze_of.body d_frieze_of.scope (d_frieze_of.dvs K) (d_frieze_of.kws K) (He.fAd K d_frieze_of.at_) fd) : Bnd K fd p_frieze_of 0 ["quiddity"] (fun ds ws => gI [0] ds ws) :=
  bnd_kw F rfl 0 ["quiddity"] [0] rfl (by decide) fun _ _ _ _ _ _ us ws hl hw => match us, ws, hl, hw with | [], [_], _, _ => rfl
noncomputable def b_own_closed_0 : Fs := sRet (eCall gAll (aCons (eLc (iOf (eCall s_own_frieze (aCons (eVar 0) aNil))) (gSet 1) tYesD (eOp gEq (eSl (eVar 1) (oSome (eUn gNeg (eC (.int 2)))) oNone) (eLst (aCons (eC (.int 1)) (aCons (eC (.int 0)) aNil)))) [1]) aNil))
noncomputable def b_own_closed : Fs := b_own_closed_0
noncomputable def s_own_closed : List D → Hd → Res D := runF 2 b_own_closed
theorem ok_own_closed {P : Program} {w : World} {K : PySem.W.Frag} {mg : Str → Option Value} {base : Heap} (c : Fct K mg) : FDx P w K mg base d_own_closed p_own_closed 3 s_own_closed := by
  refine fd_ok (k := 2) (N := N_own_closed) (fb := b_own_closed) c.F_own_closed sc_own_closed fun cdv A outer s H E hr => ?_
  exact dss_one (f := b_own_closed_0) (ds_ret (de_callB (cd_all rfl rfl) rfl c.f_all PyProof.Rows.Boot.«all» (da_cons (de_lc (own := [("line", 1)]) (ts := [1]) rfl sc_own_closed.nd (di_of rfl (de_call (gD := fun ds _ => ds) (ok_own_frieze c) (hr.mono (by decide)) rfl c.m_own_frieze (takes_of rfl rfl rfl rfl) bp_own_frieze (da_cons (de_var 0) (da_nil)) (al_cons (al_nil)))) (blkOk_by (N := N_own_closed) (sc := defScope st_own_closed) (by decide +kernel)) (by decide) (fun _ _ _ _ _ => dg_name 1 sc_own_closed.nd) (fun _ _ _ _ _ => dts_nil) (fun _ _ _ _ _ => de_cmp (od_eq rfl hr.u64) (de_sl rfl (de_var 1) (do_some (de_un ud_neg (de_int))) (do_none)) (de_lst (da_cons (de_int) (da_cons (de_int) (da_nil)))) (by first | rfl | exact nomark _))) (da_nil))))
theorem bp_own_closed {K : PySem.W.Frag} (fd : FuncData) (F : FunD K d_own_closed.name d_own_closed.qual d_own_closed.params d_own_closed.body d_own_closed.scope (d_own_closed.dvs K) (d_own_closed.kws K) (He.fAd K d_own_closed.at_) fd) : Bnd K fd p_own_closed 1 [] (fun ds _ => ds) :=
  bnd_pos F rfl (fun _ _ _ _ _ _ us hl => match us, hl with | [_], _ => rfl) 1 rfl
noncomputable def b_own_whole_0 : Fs := sRet (eAnd (eCall s_own_closed (aCons (eVar 0) aNil)) (eOp gGt (eCall gMin (aCons (eLc (iOf (eCall s_own_frieze (aCons (eVar 0) aNil))) (gSet 1) tYesD (eCall gMin (aCons (eSl (eVar 1) (oSome (eC (.int 1))) (oSome (eUn gNeg (eC (.int 1))))) aNil)) [1]) aNil)) (eC (.int 0))))
noncomputable def b_own_whole : Fs := b_own_whole_0
noncomputable def s_own_whole : List D → Hd → Res D := runF 2 b_own_whole
theorem ok_own_whole {P : Program} {w : World} {K : PySem.W.Frag} {mg : Str → Option Value} {base : Heap} (c : Fct K mg) : FDx P w K mg base d_own_whole p_own_whole 4 s_own_whole := by
  refine fd_ok (k := 3) (N := N_own_whole) (fb := b_own_whole) c.F_own_whole sc_own_whole fun cdv A outer s H E hr => ?_
  exact dss_one (f := b_own_whole_0) (ds_ret (de_and (de_call (gD := fun ds _ => ds) (ok_own_closed c) (hr.mono (by decide)) rfl c.m_own_closed (takes_of rfl rfl rfl rfl) bp_own_closed (da_cons (de_var 0) (da_nil)) (al_cons (al_nil))) (de_one (de_cmp (od_gt) (de_callB (cd_min rfl rfl) rfl c.f_min PyProof.Rows.Boot.«min» (da_cons (de_lc (own := [("line", 1)]) (ts := [1]) rfl sc_own_whole.nd (di_of rfl (de_call (gD := fun ds _ => ds) (ok_own_frieze c) (hr.mono (by decide)) rfl c.m_own_frieze (takes_of rfl rfl rfl rfl) bp_own_frieze (da_cons (de_var 0) (da_nil)) (al_cons (al_nil)))) (blkOk_by (N := N_own_whole) (sc := defScope st_own_whole) (by decide +kernel)) (by decide) (fun _ _ _ _ _ => dg_name 1 sc_own_whole.nd) (fun _ _ _ _ _ => dts_nil) (fun _ _ _ _ _ => de_callB (cd_min rfl rfl) rfl c.f_min PyProof.Rows.Boot.«min» (da_cons (de_sl rfl (de_var 1) (do_some (de_int)) (do_some (de_un ud_neg (de_int)))) (da_nil)))) (da_nil))) (de_int) (by first | rfl | exact nomark _)))))
theorem bp_own_whole {K : PySem.W.Frag} (fd : FuncData) (F : FunD K d_own_whole.name d_own_whole.qual d_own_whole.params d_own_whole.body d_own_whole.scope (d_own_whole.dvs K) (d_own_whole.kws K) (He.fAd K d_own_whole.at_) fd) : Bnd K fd p_own_whole 1 [] (fun ds _ => ds) :=
  bnd_pos F rfl (fun _ _ _ _ _ _ us hl => match us, hl with | [_], _ => rfl) 1 rfl
noncomputable def b_is_whole_frieze_0 : Fs := sExpr (eCall s_need_quiddity (aCons (eVar 0) aNil))
noncomputable def b_is_whole_frieze_1 : Fs := sRet (eCall s_own_whole (aCons (eVar 0) aNil))
noncomputable def b_is_whole_frieze : Fs := sSeq b_is_whole_frieze_0 (b_is_whole_frieze_1)
noncomputable def s_is_whole_frieze : List D → Hd → Res D := runF 1 b_is_whole_frieze
theorem ok_is_whole_frieze {P : Program} {w : World} {K : PySem.W.Frag} {mg : Str → Option Value} {base : Heap} (c : Fct K mg) : FDx P w K mg base d_is_whole_frieze p_is_whole_frieze 5 s_is_whole_frieze := by
  refine fd_ok (k := 4) (N := N_is_whole_frieze) (fb := b_is_whole_frieze) c.F_is_whole_frieze sc_is_whole_frieze fun cdv A outer s H E hr => ?_
  refine dss_cons (f := b_is_whole_frieze_0) (ds_expr (de_call (gD := fun ds _ => ds) (ok_need_quiddity c) (hr.mono (by decide)) rfl c.m_need_quiddity (takes_of rfl rfl rfl rfl) bp_need_quiddity (da_cons (de_var 0) (da_nil)) (al_cons (al_nil)))) ?_
  exact dss_one (f := b_is_whole_frieze_1) (ds_ret (de_call (gD := fun ds _ => ds) (ok_own_whole c) (hr.mono (by decide)) rfl c.m_own_whole (takes_of rfl rfl rfl rfl) bp_own_whole (da_cons (de_var 0) (da_nil)) (al_cons (al_nil))))
theorem bp_is_whole_frieze {K : PySem.W.Frag} (fd : FuncData) (F : FunD K d_is_whole_frieze.name d_is_whole_frieze.qual d_is_whole_frieze.params d_is_whole_frieze.body d_is_whole_frieze.scope (d_is_whole_frieze.dvs K) (d_is_whole_frieze.kws K) (He.fAd K d_is_whole_frieze.at_) fd) : Bnd K fd p_is_whole_frieze 1 [] (fun ds _ => ds) :=
  bnd_pos F rfl (fun _ _ _ _ _ _ us hl => match us, hl with | [_], _ => rfl) 1 rfl
noncomputable def b_is_closed_0 : Fs := sExpr (eCall s_need_quiddity (aCons (eVar 0) aNil))
noncomputable def b_is_closed_1 : Fs := sRet (eCall s_own_closed (aCons (eVar 0) aNil))
noncomputable def b_is_closed : Fs := sSeq b_is_closed_0 (b_is_closed_1)
noncomputable def s_is_closed : List D → Hd → Res D := runF 1 b_is_closed
theorem ok_is_closed {P : Program} {w : World} {K : PySem.W.Frag} {mg : Str → Option Value} {base : Heap} (c : Fct K mg) : FDx P w K mg base d_is_closed p_is_closed 4 s_is_closed := by
  refine fd_ok (k := 3) (N := N_is_closed) (fb := b_is_closed) c.F_is_closed sc_is_closed fun cdv A outer s H E hr => ?_
  refine dss_cons (f := b_is_closed_0) (ds_expr (de_call (gD := fun ds _ => ds) (ok_need_quiddity c) (hr.mono (by decide)) rfl c.m_need_quiddity (takes_of rfl rfl rfl rfl) bp_need_quiddity (da_cons (de_var 0) (da_nil)) (al_cons (al_nil)))) ?_
  exact dss_one (f := b_is_closed_1) (ds_ret (de_call (gD := fun ds _ => ds) (ok_own_closed c) (hr.mono (by decide)) rfl c.m_own_closed (takes_of rfl rfl rfl rfl) bp_own_closed (da_cons (de_var 0) (da_nil)) (al_cons (al_nil))))
theorem bp_is_closed {K : PySem.W.Frag} (fd : FuncData) (F : FunD K d_is_closed.name d_is_closed.qual d_is_closed.params d_is_closed.body d_is_closed.scope (d_is_closed.dvs K) (d_is_closed.kws K) (He.fAd K d_is_closed.at_) fd) : Bnd K fd p_is_closed 1 [] (fun ds _ => ds) :=
  bnd_pos F rfl (fun _ _ _ _ _ _ us hl => match us, hl with | [_], _ => rfl) 1 rfl
theorem bk_is_whole_frieze_0_quiddity {K : PySem.W.Frag} (fd : FuncData) (F : FunD K d_is_whole_frieze.name d_is_whole_frieze.qual d_is_whole_frieze.params d_is_whole_frieze.body d_is_whole_frieze.scope (d_is_whole_frieze.dvs K) (d_is_whole_frieze.kws K) (He.fAd K d_is_whole_frieze.at_) fd) : Bnd K fd p_is_whole_frieze 0 ["quiddity"] (fun ds ws => gI [0] ds ws) :=
  bnd_kw F rfl 0 ["quiddity"] [0] rfl (by decide) fun _ _ _ _ _ _ us ws hl hw => match us, ws, hl, hw with | [], [_], _, _ => rfl
theorem bk_is_closed_0_quiddity {K : PySem.W.Frag} (fd : FuncData) (F : FunD K d_is_closed.name d_is_closed.qual d_is_closed.params d_is_closed.body d_is_closed.scope (d_is_closed.dvs K) (d_is_closed.kws K) (He.fAd K d_is_closed.at_) fd) : Bnd K fd p_is_closed 0 ["quiddity"] (fun ds ws => gI [0] ds ws) :=
  bnd_kw F rfl 0 ["quiddity"] [0] rfl (by decide) fun _ _ _ _ _ _ us ws hl hw => match us, ws, hl, hw with | [], [_], _, _ => rfl
noncomputable def b_own_entry_0 : Fs := sRet (eOp gIx (eCall s_own_line (aCons (eVar 0) (aCons (eVar 1) (aCons (eOp gSub (eVar 2) (eVar 1)) aNil)))) (eUn gNeg (eC (.int 1))))
noncomputable def b_own_entry : Fs := b_own_entry_0
noncomputable def s_own_entry : List D → Hd → Res D := runF 3 b_own_entry
theorem ok_own_entry {P : Program} {w : World} {K : PySem.W.Frag} {mg : Str → Option Value} {base : Heap} (c : Fct K mg) : FDx P w K mg base d_own_entry p_own_entry 2 s_own_entry := by
  refine fd_ok (k := 1) (N := N_own_entry) (fb := b_own_entry) c.F_own_entry sc_own_entry fun cdv A outer s H E hr => ?_
  exact dss_one (f := b_own_entry_0) (ds_ret (de_ix (ixd rfl hr.u1) (de_call (gD := fun ds _ => ds) (ok_own_line c) (hr.mono (by decide)) rfl c.m_own_line (takes_of rfl rfl rfl rfl) bp_own_line (da_cons (de_var 0) (da_cons (de_var 1) (da_cons (de_op (od_sub) (de_var 2) (de_var 1)) (da_nil)))) (al_cons (al_cons (al_cons (al_nil))))) (de_un ud_neg (de_int))))
theorem bp_own_entry {K : PySem.W.Frag} (fd : FuncData) (F : FunD K d_own_entry.name d_own_entry.qual d_own_entry.params d_own_entry.body d_own_entry.scope (d_own_entry.dvs K) (d_own_entry.kws K) (He.fAd K d_own_entry.at_) fd) : Bnd K fd p_own_entry 3 [] (fun ds _ => ds) :=
  bnd_pos F rfl (fun _ _ _ _ _ _ us hl => match us, hl with | [_, _, _], _ => rfl) 3 rfl
noncomputable def b_own_trace_0 : Fs := sAsg (eCall gLen (aCons (eVar 0) aNil)) (gSet 1)
noncomputable def b_own_trace_1 : Fs := sRet (eOp gSub (eCall s_own_entry (aCons (eVar 0) (aCons (eC (.int 0)) (aCons (eOp gAdd (eVar 1) (eC (.int 1))) aNil)))) (eCall s_own_entry (aCons (eVar 0) (aCons (eC (.int 1)) (aCons (eVar 1) aNil)))))
noncomputable def b_own_trace : Fs := sSeq b_own_trace_0 (b_own_trace_1)
noncomputable def s_own_trace : List D → Hd → Res D := runF 2 b_own_trace
theorem ok_own_trace {P : Program} {w : World} {K : PySem.W.Frag} {mg : Str → Option Value} {base : Heap} (c : Fct K mg) : FDx P w K mg base d_own_trace p_own_trace 3 s_own_trace := by
  refine fd_ok (k := 2) (N := N_own_trace) (fb := b_own_trace) c.F_own_trace sc_own_trace fun cdv A outer s H E hr => ?_
  refine dss_cons (f := b_own_trace_0) (ds_set 1 sc_own_trace.nd (de_callB (cd_len rfl) rfl c.f_len PyProof.Rows.Boot.«len» (da_cons (de_var 0) (da_nil))) rfl (Or.inl rfl)) ?_
  exact dss_one (f := b_own_trace_1) (ds_ret (de_op (od_sub) (de_call (gD := fun ds _ => ds) (ok_own_entry c) (hr.mono (by decide)) rfl c.m_own_entry (takes_of rfl rfl rfl rfl) bp_own_entry (da_cons (de_var 0) (da_cons (de_int) (da_cons (de_op (od_add rfl) (de_var 1) (de_int)) (da_nil)))) (al_cons (al_cons (al_cons (al_nil))))) (de_call (gD := fun ds _ => ds) (ok_own_entry c) (hr.mono (by decide)) rfl c.m_own_entry (takes_of rfl rfl rfl rfl) bp_own_entry (da_cons (de_var 0) (da_cons (de_int) (da_cons (de_var 1) (da_nil)))) (al_cons (al_cons (al_cons (al_nil)))))))
theorem bp_own_trace {K : PySem.W.Frag} (fd : FuncData) (F : FunD K d_own_trace.name d_own_trace.qual d_own_trace.params d_own_trace.body d_own_trace.scope (d_own_trace.dvs K) (d_own_trace.kws K) (He.fAd K d_own_trace.at_) fd) : Bnd K fd p_own_trace 1 [] (fun ds _ => ds) :=
  bnd_pos F rfl (fun _ _ _ _ _ _ us hl => match us, hl with | [_], _ => rfl) 1 rfl
noncomputable def b_trace_of_0 : Fs := sExpr (eCall s_need_quiddity (aCons (eVar 0) aNil))
noncomputable def b_trace_of_1 : Fs := sRet (eCall s_own_trace (aCons (eVar 0) aNil))
noncomputable def b_trace_of : Fs := sSeq b_trace_of_0 (b_trace_of_1)
noncomputable def s_trace_of : List D → Hd → Res D := runF 1 b_trace_of
theorem ok_trace_of {P : Program} {w : World} {K : PySem.W.Frag} {mg : Str → Option Value} {base : Heap} (c : Fct K mg) : FDx P w K mg base d_trace_of p_trace_of 4 s_trace_of := by
  refine fd_ok (k := 3) (N := N_trace_of) (fb := b_trace_of) c.F_trace_of sc_trace_of fun cdv A outer s H E hr => ?_
  refine dss_cons (f := b_trace_of_0) (ds_expr (de_call (gD := fun ds _ => ds) (ok_need_quiddity c) (hr.mono (by decide)) rfl c.m_need_quiddity (takes_of rfl rfl rfl rfl) bp_need_quiddity (da_cons (de_var 0) (da_nil)) (al_cons (al_nil)))) ?_
  exact dss_one (f := b_trace_of_1) (ds_ret (de_call (gD := fun ds _ => ds) (ok_own_trace c) (hr.mono (by decide)) rfl c.m_own_trace (takes_of rfl rfl rfl rfl) bp_own_trace (da_cons (de_var 0) (da_nil)) (al_cons (al_nil))))
theorem bk_trace_of_0_quiddity {K : PySem.W.Frag} (fd : FuncData) (F : FunD K d_trace_of.name d_trace_of.qual d_trace_of.params d_trace_of.body d_trace_of.scope (d_trace_of.dvs K) (d_trace_of.kws K) (He.fAd K d_trace_of.at_) fd) : Bnd K fd p_trace_of 0 ["quiddity"] (fun ds ws => gI [0] ds ws) :=
  bnd_kw F rfl 0 ["quiddity"] [0] rfl (by decide) fun _ _ _ _ _ _ us ws hl hw => match us, ws, hl, hw with | [], [_], _, _ => rfl
theorem bp_trace_of {K : PySem.W.Frag} (fd : FuncData) (F : FunD K d_trace_of.name d_trace_of.qual d_trace_of.params d_trace_of.body d_trace_of.scope (d_trace_of.dvs K) (d_trace_of.kws K) (He.fAd K d_trace_of.at_) fd) : Bnd K fd p_trace_of 1 [] (fun ds _ => ds) :=
  bnd_pos F rfl (fun _ _ _ _ _ _ us hl => match us, hl with | [_], _ => rfl) 1 rfl
noncomputable def b__law_mixed_0 : Fs := sAsg (eOp gAdd (eOp gAdd (eOp gMod (eVar 0) (eOp gIx (eLst (aCons (eC (.int 1000000007)) (aCons (eC (.int 998244353)) (aCons (eC (.int 2147483629)) (aCons (eC (.int 1000000009)) aNil))))) (eOp gMod (eVar 1) (eC (.int 4))))) (eOp gMul (eC (.int 7919)) (eVar 1))) (eC (.int 13))) (gSet 2)
noncomputable def b__law_mixed_1 : Fs := sRet (eOp gMod (eOp gMul (eOp gMod (eOp gMul (eVar 2) (eVar 2)) (eC (.int 2147483647))) (eC (.int 48271))) (eC (.int 2147483647)))
noncomputable def b__law_mixed : Fs := sSeq b__law_mixed_0 (b__law_mixed_1)
noncomputable def s__law_mixed : List D → Hd → Res D := runF 3 b__law_mixed
theorem ok__law_mixed {P : Program} {w : World} {K : PySem.W.Frag} {mg : Str → Option Value} {base : Heap} (c : Fct K mg) : FDx P w K mg base d__law_mixed p__law_mixed 1 s__law_mixed := by
  refine fd_ok (k := 0) (N := N__law_mixed) (fb := b__law_mixed) c.F__law_mixed sc__law_mixed fun cdv A outer s H E hr => ?_
  refine dss_cons (f := b__law_mixed_0) (ds_set 2 sc__law_mixed.nd (de_op (od_add rfl) (de_op (od_add rfl) (de_op (od_mod) (de_var 0) (de_ix (ixd rfl hr.u1) (de_lst (da_cons (de_int) (da_cons (de_int) (da_cons (de_int) (da_cons (de_int) (da_nil)))))) (de_op (od_mod) (de_var 1) (de_int)))) (de_op (od_mul rfl) (de_int) (de_var 1))) (de_int)) rfl (Or.inl rfl)) ?_
  exact dss_one (f := b__law_mixed_1) (ds_ret (de_op (od_mod) (de_op (od_mul rfl) (de_op (od_mod) (de_op (od_mul rfl) (de_var 2) (de_var 2)) (de_int)) (de_int)) (de_int)))
theorem bp__law_mixed {K : PySem.W.Frag} (fd : FuncData) (F : FunD K d__law_mixed.name d__law_mixed.qual d__law_mixed.params d__law_mixed.body d__law_mixed.scope (d__law_mixed.dvs K) (d__law_mixed.kws K) (He.fAd K d__law_mixed.at_) fd) : Bnd K fd p__law_mixed 2 [] (fun ds _ => ds) :=
  bnd_pos F rfl (fun _ _ _ _ _ _ us hl => match us, hl with | [_, _], _ => rfl) 2 rfl
noncomputable def b__law_digit_0 : Fs := sIf (tOf (eOp gEq (eOp gIx (eVar 0) (eC (.str "left"))) (eC (.int 0)))) (sFor (iRng1D (aCons (eC (.int 4)) aNil)) (gSet 2) (sSeq (sStore (eOp gAdd (eOp gIx (eVar 0) (eC (.str "turns"))) (eC (.int 1))) (eVar 0) (eC (.str "turns")))
    (sStore (eOp gAdd (eOp gMul (eOp gIx (eVar 0) (eC (.str "left"))) (eC (.int 2147483647))) (eCall s__law_mixed (aCons (eOp gIx (eVar 0) (eC (.str "cell"))) (aCons (eOp gIx (eVar 0) (eC (.str "turns"))) aNil)))) (eVar 0) (eC (.str "left"))))) sNil
noncomputable def b__law_digit_1 : Fs := sAsg (eOp gMod (eOp gIx (eVar 0) (eC (.str "left"))) (eVar 1)) (gSet 3)
noncomputable def b__law_digit_2 : Fs := sStore (eOp gFdv (eOp gIx (eVar 0) (eC (.str "left"))) (eVar 1)) (eVar 0) (eC (.str "left"))
noncomputable def b__law_digit_3 : Fs := sRet (eVar 3)
noncomputable def b__law_digit : Fs := sSeq b__law_digit_0 (sSeq b__law_digit_1 (sSeq b__law_digit_2 (b__law_digit_3)))
noncomputable def s__law_digit : List D → Hd → Res D := runF 4 b__law_digit
theorem ok__law_digit {P : Program} {w : World} {K : PySem.W.Frag} {mg : Str → Option Value} {base : Heap} (c : Fct K mg) : FDx P w K mg base d__law_digit p__law_digit 2 s__law_digit := by
  refine fd_ok (k := 1) (N := N__law_digit) (fb := b__law_digit) c.F__law_digit sc__law_digit fun cdv A outer s H E hr => ?_
  refine dss_cons (f := b__law_digit_0) (ds_if (dt_cmp (od_eq rfl hr.u64) (de_ix (ixd rfl hr.u1) (de_var 0) (de_str)) (de_int) (by first | rfl | exact nomark _)) (dss_one (ds_for (passes_of rfl) rfl (di_rng1 rfl c.f_range (da_cons (de_int) (da_nil))) (dg_name 2 sc__law_digit.nd) (dss_cons (ds_store hr.u1 (de_op (od_add rfl) (de_ix (ixd rfl hr.u1) (de_var 0) (de_str)) (de_int)) (de_var 0) (de_str))
    (dss_one (ds_store hr.u1 (de_op (od_add rfl) (de_op (od_mul rfl) (de_ix (ixd rfl hr.u1) (de_var 0) (de_str)) (de_int)) (de_call (gD := fun ds _ => ds) (ok__law_mixed c) (hr.mono (by decide)) rfl c.m__law_mixed (takes_of rfl rfl rfl rfl) bp__law_mixed (da_cons (de_ix (ixd rfl hr.u1) (de_var 0) (de_str)) (da_cons (de_ix (ixd rfl hr.u1) (de_var 0) (de_str)) (da_nil))) (al_cons (al_cons (al_nil))))) (de_var 0) (de_str)))))) (dss_nil)) ?_
  refine dss_cons (f := b__law_digit_1) (ds_set 3 sc__law_digit.nd (de_op (od_mod) (de_ix (ixd rfl hr.u1) (de_var 0) (de_str)) (de_var 1)) rfl (Or.inl rfl)) ?_
  refine dss_cons (f := b__law_digit_2) (ds_store hr.u1 (de_op (od_fdv) (de_ix (ixd rfl hr.u1) (de_var 0) (de_str)) (de_var 1)) (de_var 0) (de_str)) ?_
  exact dss_one (f := b__law_digit_3) (ds_ret (de_var 3))
theorem bp__law_digit {K : PySem.W.Frag} (fd : FuncData) (F : FunD K d__law_digit.name d__law_digit.qual d__law_digit.params d__law_digit.body d__law_digit.scope (d__law_digit.dvs K) (d__law_digit.kws K) (He.fAd K d__law_digit.at_) fd) : Bnd K fd p__law_digit 2 [] (fun ds _ => ds) :=
  bnd_pos F rfl (fun _ _ _ _ _ _ us hl => match us, hl with | [_, _], _ => rfl) 2 rfl
noncomputable def b_entry_of_0 : Fs := sExpr (eCall s_need_quiddity (aCons (eVar 0) aNil))
noncomputable def b_entry_of_1 : Fs := sIf (tNotD (tOf (eCall s_is_whole (aCons (eVar 1) (aCons (eC (.int 0)) (aCons (eOp gSub (eCall gLen (aCons (eVar 0) aNil)) (eC (.int 1))) aNil)))))) (sRaise "BadNumber" "value" (eVar 1)) sNil
noncomputable def b_entry_of_2 : Fs := sIf (tNotD (tOf (eCall s_is_whole (aCons (eVar 2) (aCons (eVar 1) (aCons (eOp gAdd (eVar 1) (eCall gLen (aCons (eVar 0) aNil))) aNil)))))) (sRaise "BadNumber" "value" (eVar 2)) sNil
noncomputable def b_entry_of_3 : Fs := sRet (eCall s_own_entry (aCons (eVar 0) (aCons (eVar 1) (aCons (eVar 2) aNil))))
noncomputable def b_entry_of : Fs := sSeq b_entry_of_0 (sSeq b_entry_of_1 (sSeq b_entry_of_2 (b_entry_of_3)))
noncomputable def s_entry_of : List D → Hd → Res D := runF 3 b_entry_of
theorem ok_entry_of {P : Program} {w : World} {K : PySem.W.Frag} {mg : Str → Option Value} {base : Heap} (c : Fct K mg) : FDx P w K mg base d_entry_of p_entry_of 4 s_entry_of := by
  refine fd_ok (k := 3) (N := N_entry_of) (fb := b_entry_of) c.F_entry_of sc_entry_of fun cdv A outer s H E hr => ?_
  refine dss_cons (f := b_entry_of_0) (ds_expr (de_call (gD := fun ds _ => ds) (ok_need_quiddity c) (hr.mono (by decide)) rfl c.m_need_quiddity (takes_of rfl rfl rfl rfl) bp_need_quiddity (da_cons (de_var 0) (da_nil)) (al_cons (al_nil)))) ?_
  refine dss_cons (f := b_entry_of_1) (ds_if (dt_not (dt_val (de_call (gD := fun ds _ => ds) (ok_is_whole c) (hr.mono (by decide)) rfl c.m_is_whole (takes_of rfl rfl rfl rfl) bp_is_whole (da_cons (de_var 1) (da_cons (de_int) (da_cons (de_op (od_sub) (de_callB (cd_len rfl) rfl c.f_len PyProof.Rows.Boot.«len» (da_cons (de_var 0) (da_nil))) (de_int)) (da_nil)))) (al_cons (al_cons (al_cons (al_nil))))))) (dss_one (ds_raise rfl rfl XBV c.x_BadNumber hr (takes_of rfl rfl rfl rfl) (de_var 1) rfl)) (dss_nil)) ?_
  refine dss_cons (f := b_entry_of_2) (ds_if (dt_not (dt_val (de_call (gD := fun ds _ => ds) (ok_is_whole c) (hr.mono (by decide)) rfl c.m_is_whole (takes_of rfl rfl rfl rfl) bp_is_whole (da_cons (de_var 2) (da_cons (de_var 1) (da_cons (de_op (od_add rfl) (de_var 1) (de_callB (cd_len rfl) rfl c.f_len PyProof.Rows.Boot.«len» (da_cons (de_var 0) (da_nil)))) (da_nil)))) (al_cons (al_cons (al_cons (al_nil))))))) (dss_one (ds_raise rfl rfl XBV c.x_BadNumber hr (takes_of rfl rfl rfl rfl) (de_var 2) rfl)) (dss_nil)) ?_
  exact dss_one (f := b_entry_of_3) (ds_ret (de_call (gD := fun ds _ => ds) (ok_own_entry c) (hr.mono (by decide)) rfl c.m_own_entry (takes_of rfl rfl rfl rfl) bp_own_entry (da_cons (de_var 0) (da_cons (de_var 1) (da_cons (de_var 2) (da_nil)))) (al_cons (al_cons (al_cons (al_nil))))))
theorem bp_entry_of {K : PySem.W.Frag} (fd : FuncData) (F : FunD K d_entry_of.name d_entry_of.qual d_entry_of.params d_entry_of.body d_entry_of.scope (d_entry_of.dvs K) (d_entry_of.kws K) (He.fAd K d_entry_of.at_) fd) : Bnd K fd p_entry_of 3 [] (fun ds _ => ds) :=
  bnd_pos F rfl (fun _ _ _ _ _ _ us hl => match us, hl with | [_, _, _], _ => rfl) 3 rfl
theorem bk_entry_of_0_other_one_quiddity {K : PySem.W.Frag} (fd : FuncData) (F : FunD K d_entry_of.name d_entry_of.qual d_entry_of.params d_entry_of.body d_entry_of.scope (d_entry_of.dvs K) (d_entry_of.kws K) (He.fAd K d_entry_of.at_) fd) : Bnd K fd p_entry_of 0 ["other", "one", "quiddity"] (fun ds ws => gI [2, 1, 0] ds ws) :=
  bnd_kw F rfl 0 ["other", "one", "quiddity"] [2, 1, 0] rfl (by decide) fun _ _ _ _ _ _ us ws hl hw => match us, ws, hl, hw with | [], [_, _, _], _, _ => rfl
noncomputable def b_need_numbers_0 : Fs := sAsg (eCall s_wrong_numbers (aCons (eVar 0) (aCons (eVar 1) aNil))) (gSet 2)
noncomputable def b_need_numbers_1 : Fs := sIf (tOf (eOp gNe (eVar 2) (eLst aNil))) (sRaise "BadRow" "place" (eOp gIx (eVar 2) (eC (.int 0)))) sNil
noncomputable def b_need_numbers : Fs := sSeq b_need_numbers_0 (b_need_numbers_1)
noncomputable def s_need_numbers : List D → Hd → Res D := runF 3 b_need_numbers
theorem ok_need_numbers {P : Program} {w : World} {K : PySem.W.Frag} {mg : Str → Option Value} {base : Heap} (c : Fct K mg) : FDx P w K mg base d_need_numbers p_need_numbers 3 s_need_numbers := by
  refine fd_ok (k := 2) (N := N_need_numbers) (fb := b_need_numbers) c.F_need_numbers sc_need_numbers fun cdv A outer s H E hr => ?_
  refine dss_cons (f := b_need_numbers_0) (ds_set 2 sc_need_numbers.nd (de_call (gD := fun ds _ => ds) (ok_wrong_numbers c) (hr.mono (by decide)) rfl c.m_wrong_numbers (takes_of rfl rfl rfl rfl) bp_wrong_numbers (da_cons (de_var 0) (da_cons (de_var 1) (da_nil))) (al_cons (al_cons (al_nil)))) rfl (Or.inl rfl)) ?_
  exact dss_one (f := b_need_numbers_1) (ds_if (dt_cmp (od_ne rfl hr.u64) (de_var 2) (de_lst (da_nil)) (by first | rfl | exact nomark _)) (dss_one (ds_raise rfl rfl XBV c.x_BadRow hr (takes_of rfl rfl rfl rfl) (de_ix (ixd rfl hr.u1) (de_var 2) (de_int)) rfl)) (dss_nil))
theorem bp_need_numbers {K : PySem.W.Frag} (fd : FuncData) (F : FunD K d_need_numbers.name d_need_numbers.qual d_need_numbers.params d_need_numbers.body d_need_numbers.scope (d_need_numbers.dvs K) (d_need_numbers.kws K) (He.fAd K d_need_numbers.at_) fd) : Bnd K fd p_need_numbers 2 [] (fun ds _ => ds) :=
  bnd_pos F rfl (fun _ _ _ _ _ _ us hl => match us, hl with | [_, _], _ => rfl) 2 rfl
noncomputable def b_own_continuant_0 : Fs := sAsg (eTup (aCons (eC (.int 0)) (aCons (eC (.int 1)) aNil))) (gUnp 2 (gsCons (gSet 1) (gsCons (gSet 2) gsNil)))
noncomputable def b_own_continuant_1 : Fs := sFor (iOf (eVar 0)) (gSet 3) (sPar2 1 2 (aCons (eVar 2) (aCons (eOp gSub (eOp gMul (eVar 3) (eVar 2)) (eVar 1)) aNil)))
noncomputable def b_own_continuant_2 : Fs := sRet (eVar 2)
noncomputable def b_own_continuant : Fs := sSeq b_own_continuant_0 (sSeq b_own_continuant_1 (b_own_continuant_2))
noncomputable def s_own_continuant : List D → Hd → Res D := runF 4 b_own_continuant
theorem ok_own_continuant {P : Program} {w : World} {K : PySem.W.Frag} {mg : Str → Option Value} {base : Heap} (c : Fct K mg) : FDx P w K mg base d_own_continuant p_own_continuant 1 s_own_continuant := by
  refine fd_ok (k := 0) (N := N_own_continuant) (fb := b_own_continuant) c.F_own_continuant sc_own_continuant fun cdv A outer s H E hr => ?_
  refine dss_cons (f := b_own_continuant_0) (ds_asg (de_tup (da_cons (de_int) (da_cons (de_int) (da_nil)))) (dg_unp rfl rfl (dgs_cons (dg_name 1 sc_own_continuant.nd) (dgs_cons (dg_name 2 sc_own_continuant.nd) (dgs_nil))))) ?_
  refine dss_cons (f := b_own_continuant_1) (ds_for (passes_of rfl) rfl (di_of rfl (de_var 0)) (dg_name 3 sc_own_continuant.nd) (dss_one (ds_par2 1 2 rfl sc_own_continuant.nd (da_cons (de_var 2) (da_cons (de_op (od_sub) (de_op (od_mul rfl) (de_var 3) (de_var 2)) (de_var 1)) (da_nil)))))) ?_
  exact dss_one (f := b_own_continuant_2) (ds_ret (de_var 2))
theorem bp_own_continuant {K : PySem.W.Frag} (fd : FuncData) (F : FunD K d_own_continuant.name d_own_continuant.qual d_own_continuant.params d_own_continuant.body d_own_continuant.scope (d_own_continuant.dvs K) (d_own_continuant.kws K) (He.fAd K d_own_continuant.at_) fd) : Bnd K fd p_own_continuant 1 [] (fun ds _ => ds) :=
  bnd_pos F rfl (fun _ _ _ _ _ _ us hl => match us, hl with | [_], _ => rfl) 1 rfl
noncomputable def b_continuant_0 : Fs := sExpr (eCall s_need_numbers (aCons (eVar 0) (aCons (eC (.int 0)) aNil)))
noncomputable def b_continuant_1 : Fs := sRet (eCall s_own_continuant (aCons (eVar 0) aNil))
noncomputable def b_continuant : Fs := sSeq b_continuant_0 (b_continuant_1)
noncomputable def s_continuant : List D → Hd → Res D := runF 1 b_continuant
theorem ok_continuant {P : Program} {w : World} {K : PySem.W.Frag} {mg : Str → Option Value} {base : Heap} (c : Fct K mg) : FDx P w K mg base d_continuant p_continuant 4 s_continuant := by
  refine fd_ok (k := 3) (N := N_continuant) (fb := b_continuant) c.F_continuant sc_continuant fun cdv A outer s H E hr => ?_
  refine dss_cons (f := b_continuant_0) (ds_expr (de_call (gD := fun ds _ => ds) (ok_need_numbers c) (hr.mono (by decide)) rfl c.m_need_numbers (takes_of rfl rfl rfl rfl) bp_need_numbers (da_cons (de_var 0) (da_cons (de_int) (da_nil))) (al_cons (al_cons (al_nil))))) ?_
  exact dss_one (f := b_continuant_1) (ds_ret (de_call (gD := fun ds _ => ds) (ok_own_continuant c) (hr.mono (by decide)) rfl c.m_own_continuant (takes_of rfl rfl rfl rfl) bp_own_continuant (da_cons (de_var 0) (da_nil)) (al_cons (al_nil))))
theorem bk_continuant_0_numbers {K : PySem.W.Frag} (fd : FuncData) (F : FunD K d_continuant.name d_continuant.qual d_continuant.params d_continuant.body d_continuant.scope (d_continuant.dvs K) (d_continuant.kws K) (He.fAd K d_continuant.at_) fd) : Bnd K fd p_continuant 0 ["numbers"] (fun ds ws => gI [0] ds ws) :=
  bnd_kw F rfl 0 ["numbers"] [0] rfl (by decide) fun _ _ _ _ _ _ us ws hl hw => match us, ws, hl, hw with | [], [_], _, _ => rfl
theorem bp_continuant {K : PySem.W.Frag} (fd : FuncData) (F : FunD K d_continuant.name d_continuant.qual d_continuant.params d_continuant.body d_continuant.scope (d_continuant.dvs K) (d_continuant.kws K) (He.fAd K d_continuant.at_) fd) : Bnd K fd p_continuant 1 [] (fun ds _ => ds) :=
  bnd_pos F rfl (fun _ _ _ _ _ _ us hl => match us, hl with | [_], _ => rfl) 1 rfl
noncomputable def b__law_continuant_0 : Fs := sAsg (eLst (aCons (eC (.int 0)) (aCons (eC (.int 1)) aNil))) (gSet 1)
noncomputable def b__law_continuant_1 : Fs := sFor (iOf (eRev (eVar 0))) (gSet 2) (sExpr (eMeth "list" mAppend (eVar 1) (aCons (eOp gSub (eOp gMul (eVar 2) (eOp gIx (eVar 1) (eUn gNeg (eC (.int 1))))) (eOp gIx (eVar 1) (eUn gNeg (eC (.int 2))))) aNil)))
noncomputable def b__law_continuant_2 : Fs := sRet (eOp gIx (eVar 1) (eUn gNeg (eC (.int 1))))
noncomputable def b__law_continuant : Fs := sSeq b__law_continuant_0 (sSeq b__law_continuant_1 (b__law_continuant_2))
noncomputable def s__law_continuant : List D → Hd → Res D := runF 3 b__law_continuant
theorem ok__law_continuant {P : Program} {w : World} {K : PySem.W.Frag} {mg : Str → Option Value} {base : Heap} (c : Fct K mg) : FDx P w K mg base d__law_continuant p__law_continuant 1 s__law_continuant := by
  refine fd_ok (k := 0) (N := N__law_continuant) (fb := b__law_continuant) c.F__law_continuant sc__law_continuant fun cdv A outer s H E hr => ?_
  refine dss_cons (f := b__law_continuant_0) (ds_set 1 sc__law_continuant.nd (de_lst (da_cons (de_int) (da_cons (de_int) (da_nil)))) rfl (Or.inl rfl)) ?_
  refine dss_cons (f := b__law_continuant_1) (ds_for (passes_of rfl) rfl (di_of rfl (de_rev rfl (de_var 0))) (dg_name 2 sc__law_continuant.nd) (dss_one (ds_expr (de_meth rfl F.plainAttrs_list F.slot_list_append F.type_list_append md_append (de_var 1) (da_cons (de_op (od_sub) (de_op (od_mul rfl) (de_var 2) (de_ix (ixd rfl hr.u1) (de_var 1) (de_un ud_neg (de_int)))) (de_ix (ixd rfl hr.u1) (de_var 1) (de_un ud_neg (de_int)))) (da_nil)))))) ?_
  exact dss_one (f := b__law_continuant_2) (ds_ret (de_ix (ixd rfl hr.u1) (de_var 1) (de_un ud_neg (de_int))))
theorem bp__law_continuant {K : PySem.W.Frag} (fd : FuncData) (F : FunD K d__law_continuant.name d__law_continuant.qual d__law_continuant.params d__law_continuant.body d__law_continuant.scope (d__law_continuant.dvs K) (d__law_continuant.kws K) (He.fAd K d__law_continuant.at_) fd) : Bnd K fd p__law_continuant 1 [] (fun ds _ => ds) :=
  bnd_pos F rfl (fun _ _ _ _ _ _ us hl => match us, hl with | [_], _ => rfl) 1 rfl
noncomputable def b__law_refused_0 : Fs := sAsg (eLst aNil) (gSet 2)
noncomputable def b__law_refused_1 : Fs := sAsg (eLst (aCons (eTup (aCons (eC .non) (aCons (eC .non) aNil))) (aCons (eTup (aCons (eTup (aCons (eC (.int 1)) (aCons (eC (.int 1)) aNil))) (aCons (eC .non) aNil))) (aCons (eTup (aCons (eOp gMul (eTup (aCons (eC (.int 1)) aNil)) (eC (.int 25))) (aCons (eC .non) aNil))) (aCons (eTup (aCons (eLst (aCons (eC (.int 1)) (aCons (eC (.int 1)) (aCons (eC (.int 1)) aNil)))) (aCons (eC .non) aNil))) (aCons (eTup (aCons (eTup (aCons (eC (.int 1)) (aCons (eC .non) (aCons (eC (.int 1)) aNil)))) (aCons (eC (.int 1)) aNil))) (aCons (eTup (aCons (eTup (aCons (eC (.int 1)) (aCons (eC (.int 1)) (aCons (eC (.bl true)) aNil)))) (aCons (eC (.int 2)) aNil))) aNil))))))) (gSet 3)
noncomputable def b__law_refused_2 : Fs := sFor (iOf (eOp gAdd (eVar 3) (eLst (aCons (eTup (aCons (eTup (aCons (eC (.int 1001)) (aCons (eC (.int 1)) (aCons (eC (.int 1)) aNil)))) (aCons (eC (.int 0)) aNil))) (aCons (eTup (aCons (eTup (aCons (eC (.int 1)) (aCons (eUn gNeg (eC (.int 1001))) (aCons (eC (.int 1)) aNil)))) (aCons (eC (.int 1)) aNil))) aNil))))) (gUnp 2 (gsCons (gSet 4) (gsCons (gSet 5) gsNil))) (sSeq (sFor (iOf (eTup (aCons (eC (.gl "need_quiddity")) (aCons (eC (.gl "frieze_of")) (aCons (eC (.gl "is_closed")) (aCons (eC (.gl "is_whole_frieze")) (aCons (eC (.gl "trace_of")) aNil))))))) (gSet 6) (sTryAs 7 mt_BadFrieze (sExpr (eCallV 6 [("need_quiddity", s_need_quiddity), ("frieze_of", s_frieze_of), ("is_closed", s_is_closed), ("is_whole_frieze", s_is_whole_frieze), ("trace_of", s_trace_of)] (aCons (eVar 4) aNil))) (fun n_ => sExpr (eMeth "list" mAppend (eVar 2) (aCons (eOp gEq (eFld n_ "place" ["BadFrieze"] (eVar 7)) (eVar 5)) aNil)))))
    (sTryAs 7 mt_BadFrieze (sExpr (eCall s_entry_of (aCons (eVar 4) (aCons (eC .non) (aCons (eC .non) aNil))))) (fun n_ => sExpr (eMeth "list" mAppend (eVar 2) (aCons (eOp gEq (eFld n_ "place" ["BadFrieze"] (eVar 7)) (eVar 5)) aNil)))))
noncomputable def b__law_refused_3 : Fs := sFor (iOf (eTup (aCons (eUn gNeg (eC (.int 1))) (aCons (eVar 1) (aCons (eC .non) (aCons (eC (.bl true)) aNil)))))) (gSet 4) (sTryAs 7 mt_BadNumber (sExpr (eCall s_entry_of (aCons (eVar 0) (aCons (eVar 4) (aCons (eC .non) aNil))))) (fun n_ => sExpr (eMeth "list" mAppend (eVar 2) (aCons (eOp gEq (eCall gRepr (aCons (eFld n_ "value" ["BadNumber"] (eVar 7)) aNil)) (eCall gRepr (aCons (eVar 4) aNil))) aNil))))
noncomputable def b__law_refused_4 : Fs := sFor (iOf (eTup (aCons (eC (.int 0)) (aCons (eOp gAdd (eC (.int 2)) (eVar 1)) (aCons (eC .non) (aCons (eC (.str "1")) aNil)))))) (gSet 4) (sTryAs 7 mt_BadNumber (sExpr (eCall s_entry_of (aCons (eVar 0) (aCons (eC (.int 1)) (aCons (eVar 4) aNil))))) (fun n_ => sExpr (eMeth "list" mAppend (eVar 2) (aCons (eOp gEq (eCall gRepr (aCons (eFld n_ "value" ["BadNumber"] (eVar 7)) aNil)) (eCall gRepr (aCons (eVar 4) aNil))) aNil))))
noncomputable def b__law_refused_5 : Fs := sFor (iOf (eTup (aCons (eTup (aCons (eC .non) (aCons (eC .non) aNil))) (aCons (eTup (aCons (eOp gMul (eTup (aCons (eC (.int 0)) aNil)) (eC (.int 25))) (aCons (eC .non) aNil))) (aCons (eTup (aCons (eLst (aCons (eC (.int 1)) aNil)) (aCons (eC .non) aNil))) (aCons (eTup (aCons (eTup (aCons (eC (.int 1)) (aCons (eC (.str "1")) aNil))) (aCons (eC (.int 1)) aNil))) (aCons (eTup (aCons (eTup (aCons (eC (.int 1001)) aNil)) (aCons (eC (.int 0)) aNil))) aNil))))))) (gUnp 2 (gsCons (gSet 4) (gsCons (gSet 5) gsNil))) (sTryAs 7 mt_BadRow (sExpr (eCall s_continuant (aCons (eVar 4) aNil))) (fun n_ => sExpr (eMeth "list" mAppend (eVar 2) (aCons (eOp gEq (eFld n_ "place" ["BadRow"] (eVar 7)) (eVar 5)) aNil))))
noncomputable def b__law_refused_6 : Fs := sRet (eAnd (eOp gEq (eVar 2) (eOp gMul (eLst (aCons (eC (.bl true)) aNil)) (eC (.int 61)))) (eOp gIs (eCall s_need_quiddity (aCons (eTup (aCons (eC (.int 1000)) (aCons (eUn gNeg (eC (.int 1000))) (aCons (eC (.int 0)) aNil)))) aNil)) (eC .non)))
noncomputable def b__law_refused : Fs := sSeq b__law_refused_0 (sSeq b__law_refused_1 (sSeq b__law_refused_2 (sSeq b__law_refused_3 (sSeq b__law_refused_4 (sSeq b__law_refused_5 (b__law_refused_6))))))
noncomputable def s__law_refused : List D → Hd → Res D := runF 8 b__law_refused
theorem ok__law_refused {P : Program} {w : World} {K : PySem.W.Frag} {mg : Str → Option Value} {base : Heap} (c : Fct K mg) : FDx P w K mg base d__law_refused p__law_refused 6 s__law_refused := by
  refine fd_ok (k := 5) (N := N__law_refused) (fb := b__law_refused) c.F__law_refused sc__law_refused fun cdv A outer s H E hr => ?_
  refine dss_cons (f := b__law_refused_0) (ds_set 2 sc__law_refused.nd (de_lst (da_nil)) rfl (Or.inl rfl)) ?_
  refine dss_cons (f := b__law_refused_1) (ds_set 3 sc__law_refused.nd (de_lst (da_cons (de_tup (da_cons (de_non) (da_cons (de_non) (da_nil)))) (da_cons (de_tup (da_cons (de_tup (da_cons (de_int) (da_cons (de_int) (da_nil)))) (da_cons (de_non) (da_nil)))) (da_cons (de_tup (da_cons (de_op (od_mul rfl) (de_tup (da_cons (de_int) (da_nil))) (de_int)) (da_cons (de_non) (da_nil)))) (da_cons (de_tup (da_cons (de_lst (da_cons (de_int) (da_cons (de_int) (da_cons (de_int) (da_nil))))) (da_cons (de_non) (da_nil)))) (da_cons (de_tup (da_cons (de_tup (da_cons (de_int) (da_cons (de_non) (da_cons (de_int) (da_nil))))) (da_cons (de_int) (da_nil)))) (da_cons (de_tup (da_cons (de_tup (da_cons (de_int) (da_cons (de_int) (da_cons (de_bl) (da_nil))))) (da_cons (de_int) (da_nil)))) (da_nil)))))))) rfl (Or.inl rfl)) ?_
  refine dss_cons (f := b__law_refused_2) (ds_for (passes_of rfl) rfl (di_of rfl (de_op (od_add rfl) (de_var 3) (de_lst (da_cons (de_tup (da_cons (de_tup (da_cons (de_int) (da_cons (de_int) (da_cons (de_int) (da_nil))))) (da_cons (de_int) (da_nil)))) (da_cons (de_tup (da_cons (de_tup (da_cons (de_int) (da_cons (de_un ud_neg (de_int)) (da_cons (de_int) (da_nil))))) (da_cons (de_int) (da_nil)))) (da_nil)))))) (dg_unp rfl rfl (dgs_cons (dg_name 4 sc__law_refused.nd) (dgs_cons (dg_name 5 sc__law_refused.nd) (dgs_nil)))) (dss_cons (ds_for (passes_of rfl) rfl (di_of rfl (de_tup (da_cons (de_gl rfl rfl ⟨_, c.m_need_quiddity⟩) (da_cons (de_gl rfl rfl ⟨_, c.m_frieze_of⟩) (da_cons (de_gl rfl rfl ⟨_, c.m_is_closed⟩) (da_cons (de_gl rfl rfl ⟨_, c.m_is_whole_frieze⟩) (da_cons (de_gl rfl rfl ⟨_, c.m_trace_of⟩) (da_nil)))))))) (dg_name 6 sc__law_refused.nd) (dss_one (ds_tryAs rfl rfl sc__law_refused.nd rfl (fun _ => rfl) ⟨rfl, by decide, .inl c.m_BadFrieze⟩ (takes_of rfl rfl rfl rfl) (mt_BadFrieze_ok c) (fun _ _ _ tk_ pw_ => dss_one (ds_expr (de_callV 6 (L := [("need_quiddity", s_need_quiddity), ("frieze_of", s_frieze_of), ("is_closed", s_is_closed), ("is_whole_frieze", s_is_whole_frieze), ("trace_of", s_trace_of)]) (deeds_cons (gD := fun ds => ds) "need_quiddity" (ok_need_quiddity c) (hr.mono (by decide)) c.m_need_quiddity bp_need_quiddity (deeds_cons (gD := fun ds => ds) "frieze_of" (ok_frieze_of c) (hr.mono (by decide)) c.m_frieze_of bp_frieze_of (deeds_cons (gD := fun ds => ds) "is_closed" (ok_is_closed c) (hr.mono (by decide)) c.m_is_closed bp_is_closed (deeds_cons (gD := fun ds => ds) "is_whole_frieze" (ok_is_whole_frieze c) (hr.mono (by decide)) c.m_is_whole_frieze bp_is_whole_frieze (deeds_cons (gD := fun ds => ds) "trace_of" (ok_trace_of c) (hr.mono (by decide)) c.m_trace_of bp_trace_of (deeds_nil)))))) tk_ (da_cons (de_var 4) (da_nil)) (al_cons (al_nil))))) (fun _ _ _ _ _ n_ hz_ hv_ => dss_one (ds_expr (de_meth rfl F.plainAttrs_list F.slot_list_append F.type_list_append md_append (de_var 2) (da_cons (de_cmp (od_eq rfl hr.u64) (de_fld (cs := ["BadFrieze"]) rfl hz_ hv_ (fun c0 hc0 => by simp only [List.mem_cons, List.mem_nil_iff, or_false] at hc0; subst hc0; exact ⟨_, _, _, _, _, _, c.x_BadFrieze⟩) (de_var 7)) (de_var 5) (by first | rfl | exact nomark _)) (da_nil))))))))
    (dss_one (ds_tryAs rfl rfl sc__law_refused.nd rfl (fun _ => rfl) ⟨rfl, by decide, .inl c.m_BadFrieze⟩ (takes_of rfl rfl rfl rfl) (mt_BadFrieze_ok c) (fun _ _ _ tk_ pw_ => dss_one (ds_expr (de_call (gD := fun ds _ => ds) (ok_entry_of c) (hr.mono (by decide)) rfl c.m_entry_of tk_ bp_entry_of (da_cons (de_var 4) (da_cons (de_non) (da_cons (de_non) (da_nil)))) (al_cons (al_cons (al_cons (al_nil))))))) (fun _ _ _ _ _ n_ hz_ hv_ => dss_one (ds_expr (de_meth rfl F.plainAttrs_list F.slot_list_append F.type_list_append md_append (de_var 2) (da_cons (de_cmp (od_eq rfl hr.u64) (de_fld (cs := ["BadFrieze"]) rfl hz_ hv_ (fun c0 hc0 => by simp only [List.mem_cons, List.mem_nil_iff, or_false] at hc0; subst hc0; exact ⟨_, _, _, _, _, _, c.x_BadFrieze⟩) (de_var 7)) (de_var 5) (by first | rfl | exact nomark _)) (da_nil))))))))) ?_
  refine dss_cons (f := b__law_refused_3) (ds_for (passes_of rfl) rfl (di_of rfl (de_tup (da_cons (de_un ud_neg (de_int)) (da_cons (de_var 1) (da_cons (de_non) (da_cons (de_bl) (da_nil))))))) (dg_name 4 sc__law_refused.nd) (dss_one (ds_tryAs rfl rfl sc__law_refused.nd rfl (fun _ => rfl) ⟨rfl, by decide, .inl c.m_BadNumber⟩ (takes_of rfl rfl rfl rfl) (mt_BadNumber_ok c) (fun _ _ _ tk_ pw_ => dss_one (ds_expr (de_call (gD := fun ds _ => ds) (ok_entry_of c) (hr.mono (by decide)) rfl c.m_entry_of tk_ bp_entry_of (da_cons (de_var 0) (da_cons (de_var 4) (da_cons (de_non) (da_nil)))) (al_cons (al_cons (al_cons (al_nil))))))) (fun _ _ _ _ _ n_ hz_ hv_ => dss_one (ds_expr (de_meth rfl F.plainAttrs_list F.slot_list_append F.type_list_append md_append (de_var 2) (da_cons (de_cmp (od_eq rfl hr.u64) (de_callB (cd_repr rfl hr.gd hr.u64) rfl c.f_repr PyProof.Rows.Boot.«repr» (da_cons (de_fld (cs := ["BadNumber"]) rfl hz_ hv_ (fun c0 hc0 => by simp only [List.mem_cons, List.mem_nil_iff, or_false] at hc0; subst hc0; exact ⟨_, _, _, _, _, _, c.x_BadNumber⟩) (de_var 7)) (da_nil))) (de_callB (cd_repr rfl hr.gd hr.u64) rfl c.f_repr PyProof.Rows.Boot.«repr» (da_cons (de_var 4) (da_nil))) (by first | rfl | exact nomark _)) (da_nil)))))))) ?_
  refine dss_cons (f := b__law_refused_4) (ds_for (passes_of rfl) rfl (di_of rfl (de_tup (da_cons (de_int) (da_cons (de_op (od_add rfl) (de_int) (de_var 1)) (da_cons (de_non) (da_cons (de_str) (da_nil))))))) (dg_name 4 sc__law_refused.nd) (dss_one (ds_tryAs rfl rfl sc__law_refused.nd rfl (fun _ => rfl) ⟨rfl, by decide, .inl c.m_BadNumber⟩ (takes_of rfl rfl rfl rfl) (mt_BadNumber_ok c) (fun _ _ _ tk_ pw_ => dss_one (ds_expr (de_call (gD := fun ds _ => ds) (ok_entry_of c) (hr.mono (by decide)) rfl c.m_entry_of tk_ bp_entry_of (da_cons (de_var 0) (da_cons (de_int) (da_cons (de_var 4) (da_nil)))) (al_cons (al_cons (al_cons (al_nil))))))) (fun _ _ _ _ _ n_ hz_ hv_ => dss_one (ds_expr (de_meth rfl F.plainAttrs_list F.slot_list_append F.type_list_append md_append (de_var 2) (da_cons (de_cmp (od_eq rfl hr.u64) (de_callB (cd_repr rfl hr.gd hr.u64) rfl c.f_repr PyProof.Rows.Boot.«repr» (da_cons (de_fld (cs := ["BadNumber"]) rfl hz_ hv_ (fun c0 hc0 => by simp only [List.mem_cons, List.mem_nil_iff, or_false] at hc0; subst hc0; exact ⟨_, _, _, _, _, _, c.x_BadNumber⟩) (de_var 7)) (da_nil))) (de_callB (cd_repr rfl hr.gd hr.u64) rfl c.f_repr PyProof.Rows.Boot.«repr» (da_cons (de_var 4) (da_nil))) (by first | rfl | exact nomark _)) (da_nil)))))))) ?_
  refine dss_cons (f := b__law_refused_5) (ds_for (passes_of rfl) rfl (di_of rfl (de_tup (da_cons (de_tup (da_cons (de_non) (da_cons (de_non) (da_nil)))) (da_cons (de_tup (da_cons (de_op (od_mul rfl) (de_tup (da_cons (de_int) (da_nil))) (de_int)) (da_cons (de_non) (da_nil)))) (da_cons (de_tup (da_cons (de_lst (da_cons (de_int) (da_nil))) (da_cons (de_non) (da_nil)))) (da_cons (de_tup (da_cons (de_tup (da_cons (de_int) (da_cons (de_str) (da_nil)))) (da_cons (de_int) (da_nil)))) (da_cons (de_tup (da_cons (de_tup (da_cons (de_int) (da_nil))) (da_cons (de_int) (da_nil)))) (da_nil)))))))) (dg_unp rfl rfl (dgs_cons (dg_name 4 sc__law_refused.nd) (dgs_cons (dg_name 5 sc__law_refused.nd) (dgs_nil)))) (dss_one (ds_tryAs rfl rfl sc__law_refused.nd rfl (fun _ => rfl) ⟨rfl, by decide, .inl c.m_BadRow⟩ (takes_of rfl rfl rfl rfl) (mt_BadRow_ok c) (fun _ _ _ tk_ pw_ => dss_one (ds_expr (de_call (gD := fun ds _ => ds) (ok_continuant c) (hr.mono (by decide)) rfl c.m_continuant tk_ bp_continuant (da_cons (de_var 4) (da_nil)) (al_cons (al_nil))))) (fun _ _ _ _ _ n_ hz_ hv_ => dss_one (ds_expr (de_meth rfl F.plainAttrs_list F.slot_list_append F.type_list_append md_append (de_var 2) (da_cons (de_cmp (od_eq rfl hr.u64) (de_fld (cs := ["BadRow"]) rfl hz_ hv_ (fun c0 hc0 => by simp only [List.mem_cons, List.mem_nil_iff, or_false] at hc0; subst hc0; exact ⟨_, _, _, _, _, _, c.x_BadRow⟩) (de_var 7)) (de_var 5) (by first | rfl | exact nomark _)) (da_nil)))))))) ?_
  exact dss_one (f := b__law_refused_6) (ds_ret (de_and (de_cmp (od_eq rfl hr.u64) (de_var 2) (de_op (od_mul rfl) (de_lst (da_cons (de_bl) (da_nil))) (de_int)) (by first | rfl | exact nomark _)) (de_one (de_cmp (od_is) (de_call (gD := fun ds _ => ds) (ok_need_quiddity c) (hr.mono (by decide)) rfl c.m_need_quiddity (takes_of rfl rfl rfl rfl) bp_need_quiddity (da_cons (de_tup (da_cons (de_int) (da_cons (de_un ud_neg (de_int)) (da_cons (de_int) (da_nil))))) (da_nil)) (al_cons (al_nil))) (de_non) (by first | rfl | exact nomark _)))))
theorem bp__law_refused {K : PySem.W.Frag} (fd : FuncData) (F : FunD K d__law_refused.name d__law_refused.qual d__law_refused.params d__law_refused.body d__law_refused.scope (d__law_refused.dvs K) (d__law_refused.kws K) (He.fAd K d__law_refused.at_) fd) : Bnd K fd p__law_refused 2 [] (fun ds _ => ds) :=
  bnd_pos F rfl (fun _ _ _ _ _ _ us hl => match us, hl with | [_, _], _ => rfl) 2 rfl
noncomputable def b__law_right_0 : Fs := sAsg (eCall gLen (aCons (eVar 1) aNil)) (gSet 2)
noncomputable def b__law_right_1 : Fs := sAsg (eLst aNil) (gSet 3)
noncomputable def b__law_right_2 : Fs := sFor (iRng1D (aCons (eVar 2) aNil)) (gSet 4) (sExpr (eMeth "list" mAppend (eVar 3) (aCons (eCall gTuple (aCons (eLc (iRng1D (aCons (eOp gAdd (eVar 2) (eC (.int 1))) aNil)) (gSet 18) tYesD (eCall s__law_between (aCons (eVar 1) (aCons (eVar 4) (aCons (eOp gAdd (eVar 4) (eVar 18)) aNil)))) [18]) aNil)) aNil)))
noncomputable def b__law_right_3 : Fs := sIf (tOrD (tOf (eOp gIsNot (eCall s_need_quiddity (aCons (eVar 1) aNil)) (eC .non))) (tOf (eOp gNe (eCall gRepr (aCons (eCall s_frieze_of (aCons (eVar 1) aNil)) aNil)) (eCall gRepr (aCons (eCall gTuple (aCons (eVar 3) aNil)) aNil))))) (sRet (eC (.bl false))) sNil
noncomputable def b__law_right_4 : Fs := sIf (tOf (eOp gNe (eCallK s_frieze_of (fun ds ws => gI [0] ds ws) aNil (aCons (eVar 1) aNil)) (eCall gTuple (aCons (eVar 3) aNil)))) (sRet (eC (.bl false))) sNil
noncomputable def b__law_right_5 : Fs := sAsg (eOp gEq (eLc (iOf (eVar 3)) (gSet 16) (tOf (eOp gNe (eSl (eVar 16) (oSome (eUn gNeg (eC (.int 2)))) oNone) (eTup (aCons (eC (.int 1)) (aCons (eC (.int 0)) aNil))))) (eVar 16) [16]) (eLst aNil)) (gSet 5)
noncomputable def b__law_right_6 : Fs := sAsg (eAnd (eVar 5) (eOp gEq (eLc (iOf (eVar 3)) (gSet 16) (tOf (eOp gLt (eCall gMin (aCons (eSl (eVar 16) (oSome (eC (.int 1))) (oSome (eUn gNeg (eC (.int 1))))) aNil)) (eC (.int 1)))) (eVar 16) [16]) (eLst aNil))) (gSet 6)
noncomputable def b__law_right_7 : Fs := sIf (tOf (eOp gNe (eCall gRepr (aCons (eLst (aCons (eCall s_is_closed (aCons (eVar 1) aNil)) (aCons (eCall s_is_whole_frieze (aCons (eVar 1) aNil)) aNil))) aNil)) (eCall gRepr (aCons (eLst (aCons (eVar 5) (aCons (eVar 6) aNil))) aNil)))) (sRet (eC (.bl false))) sNil
noncomputable def b__law_right_8 : Fs := sIf (tOf (eOp gNe (eLst (aCons (eCallK s_is_closed (fun ds ws => gI [0] ds ws) aNil (aCons (eVar 1) aNil)) (aCons (eCallK s_is_whole_frieze (fun ds ws => gI [0] ds ws) aNil (aCons (eVar 1) aNil)) aNil))) (eLst (aCons (eVar 5) (aCons (eVar 6) aNil))))) (sRet (eC (.bl false))) sNil
noncomputable def b__law_right_9 : Fs := sAsg (eCall s__law_table (aCons (eVar 1) aNil)) (gUnp 4 (gsCons (gSet 7) (gsCons (gSet 8) (gsCons (gSet 9) (gsCons (gSet 10) gsNil)))))
noncomputable def b__law_right_10 : Fs := sIf (tOrD (tOf (eOp gNe (eCall gRepr (aCons (eCall s_trace_of (aCons (eVar 1) aNil)) aNil)) (eCall gRepr (aCons (eOp gAdd (eVar 7) (eVar 10)) aNil)))) (tOrD (tOf (eOp gNe (eCallK s_trace_of (fun ds ws => gI [0] ds ws) aNil (aCons (eVar 1) aNil)) (eOp gAdd (eVar 7) (eVar 10)))) (tAndD (tOf (eVar 5)) (tOf (eOp gNe (eOp gAdd (eVar 7) (eVar 10)) (eUn gNeg (eC (.int 2)))))))) (sRet (eC (.bl false))) sNil
noncomputable def b__law_right_11 : Fs := sIf (tOf (eOp gNe (eVar 5) (eOp gEq (eTup (aCons (eVar 7) (aCons (eVar 8) (aCons (eVar 9) (aCons (eVar 10) aNil))))) (eTup (aCons (eUn gNeg (eC (.int 1))) (aCons (eC (.int 0)) (aCons (eC (.int 0)) (aCons (eUn gNeg (eC (.int 1))) aNil)))))))) (sRet (eC (.bl false))) sNil
noncomputable def b__law_right_12 : Fs := sFor (iRng1D (aCons (eC (.int 4)) aNil)) (gSet 11) (sSeq (sAsg (eCall s__law_digit (aCons (eVar 0) (aCons (eVar 2) aNil))) (gSet 4))
    (sSeq (sAsg (eOp gAdd (eVar 4) (eCall s__law_digit (aCons (eVar 0) (aCons (eOp gAdd (eVar 2) (eC (.int 1))) aNil)))) (gSet 12))
    (sSeq (sAsg (eCall s__law_between (aCons (eVar 1) (aCons (eVar 4) (aCons (eVar 12) aNil)))) (gSet 13))
    (sSeq (sIf (tOf (eOp gNe (eCall gRepr (aCons (eCall s_entry_of (aCons (eVar 1) (aCons (eVar 4) (aCons (eVar 12) aNil)))) aNil)) (eCall gRepr (aCons (eVar 13) aNil)))) (sRet (eC (.bl false))) sNil)
    (sSeq (sIf (tOf (eOp gNe (eCallK s_entry_of (fun ds ws => gI [2, 1, 0] ds ws) aNil (aCons (eVar 12) (aCons (eVar 4) (aCons (eVar 1) aNil)))) (eVar 13))) (sRet (eC (.bl false))) sNil)
    (sSeq (sAsg (eCall gTuple (aCons (eLc (iRng2D (aCons (eOp gAdd (eVar 4) (eC (.int 1))) (aCons (eVar 12) aNil))) (gSet 19) tYesD (eOp gIx (eVar 1) (eOp gMod (eVar 19) (eVar 2))) [19]) aNil)) (gSet 14))
    (sSeq (sIf (tOrD (tOf (eOp gNe (eCall gRepr (aCons (eCall s_continuant (aCons (eVar 14) aNil)) aNil)) (eCall gRepr (aCons (eCall s__law_continuant (aCons (eVar 14) aNil)) aNil)))) (tOf (eOp gNe (eCallK s_continuant (fun ds ws => gI [0] ds ws) aNil (aCons (eRev (eVar 14)) aNil)) (eCall s_continuant (aCons (eVar 14) aNil))))) (sRet (eC (.bl false))) sNil)
    (sIf (tAndD (tOf (eOp gLt (eVar 4) (eVar 12))) (tOf (eOp gNe (eCall s_continuant (aCons (eVar 14) aNil)) (eVar 13)))) (sRet (eC (.bl false))) sNil))))))))
noncomputable def b__law_right_13 : Fs := sFor (iRng1D (aCons (eVar 2) aNil)) (gSet 15) (sSeq (sPar2 16 17 (aCons (eOp gIx (eVar 3) (eVar 15)) (aCons (eOp gIx (eVar 3) (eOp gMod (eOp gAdd (eVar 15) (eC (.int 1))) (eVar 2))) aNil)))
    (sFor (iRng2D (aCons (eC (.int 1)) (aCons (eVar 2) aNil))) (gSet 18) (sIf (tOf (eOp gNe (eOp gSub (eOp gMul (eOp gIx (eVar 16) (eVar 18)) (eOp gIx (eVar 17) (eVar 18))) (eOp gMul (eOp gIx (eVar 16) (eOp gAdd (eVar 18) (eC (.int 1)))) (eOp gIx (eVar 17) (eOp gSub (eVar 18) (eC (.int 1)))))) (eC (.int 1)))) (sRet (eC (.bl false))) sNil)))
noncomputable def b__law_right_14 : Fs := sRet (eCall s__law_refused (aCons (eVar 1) (aCons (eVar 2) aNil)))
noncomputable def b__law_right : Fs := sSeq b__law_right_0 (sSeq b__law_right_1 (sSeq b__law_right_2 (sSeq b__law_right_3 (sSeq b__law_right_4 (sSeq b__law_right_5 (sSeq b__law_right_6 (sSeq b__law_right_7 (sSeq b__law_right_8 (sSeq b__law_right_9 (sSeq b__law_right_10 (sSeq b__law_right_11 (sSeq b__law_right_12 (sSeq b__law_right_13 (b__law_right_14))))))))))))))
noncomputable def s__law_right : List D → Hd → Res D := runF 20 b__law_right
theorem ok__law_right {P : Program} {w : World} {K : PySem.W.Frag} {mg : Str → Option Value} {base : Heap} (c : Fct K mg) : FDx P w K mg base d__law_right p__law_right 7 s__law_right := by
  refine fd_ok (k := 6) (N := N__law_right) (fb := b__law_right) c.F__law_right sc__law_right fun cdv A outer s H E hr => ?_
  refine dss_cons (f := b__law_right_0) (ds_set 2 sc__law_right.nd (de_callB (cd_len rfl) rfl c.f_len PyProof.Rows.Boot.«len» (da_cons (de_var 1) (da_nil))) rfl (Or.inr rfl)) ?_
  refine dss_cons (f := b__law_right_1) (ds_set 3 sc__law_right.nd (de_lst (da_nil)) rfl (Or.inl rfl)) ?_
  refine dss_cons (f := b__law_right_2) (ds_for (passes_of rfl) rfl (di_rng1 rfl c.f_range (da_cons (de_var 2) (da_nil))) (dg_name 4 sc__law_right.nd) (dss_one (ds_expr (de_meth rfl F.plainAttrs_list F.slot_list_append F.type_list_append md_append (de_var 3) (da_cons (de_callT (cd_tuple rfl) rfl c.f_tuple PyProof.Rows.Boot.«tuple» (da_cons (de_lc (own := [("step", 18)]) (ts := [18]) rfl sc__law_right.nd (di_rng1 rfl c.f_range (da_cons (de_op (od_add rfl) (de_var 2) (de_int)) (da_nil))) (blkOk_by (N := N__law_right) (sc := defScope st__law_right) (by decide +kernel)) (by decide) (fun _ _ _ _ _ => dg_name 18 sc__law_right.nd) (fun _ _ _ _ _ => dts_nil) (fun _ _ _ _ _ => de_call (gD := fun ds _ => ds) (ok__law_between c) (hr.mono (by decide)) rfl c.m__law_between takes_W0 bp__law_between (da_cons (de_var 1) (da_cons (de_var 4) (da_cons (de_op (od_add rfl) (de_var 4) (de_var 18)) (da_nil)))) (al_cons (al_cons (al_cons (al_nil)))))) (da_nil))) (da_nil)))))) ?_
  refine dss_cons (f := b__law_right_3) (ds_if (dt_bool (dw_or (dt_cmp (od_isnot) (de_call (gD := fun ds _ => ds) (ok_need_quiddity c) (hr.mono (by decide)) rfl c.m_need_quiddity (takes_of rfl rfl rfl rfl) bp_need_quiddity (da_cons (de_var 1) (da_nil)) (al_cons (al_nil))) (de_non) (by first | rfl | exact nomark _)) (dw_or1 (dt_cmp (od_ne rfl hr.u64) (de_callB (cd_repr rfl hr.gd hr.u64) rfl c.f_repr PyProof.Rows.Boot.«repr» (da_cons (de_call (gD := fun ds _ => ds) (ok_frieze_of c) (hr.mono (by decide)) rfl c.m_frieze_of (takes_of rfl rfl rfl rfl) bp_frieze_of (da_cons (de_var 1) (da_nil)) (al_cons (al_nil))) (da_nil))) (de_callB (cd_repr rfl hr.gd hr.u64) rfl c.f_repr PyProof.Rows.Boot.«repr» (da_cons (de_callT (cd_tuple rfl) rfl c.f_tuple PyProof.Rows.Boot.«tuple» (da_cons (de_var 3) (da_nil))) (da_nil))) (by first | rfl | exact nomark _))))) (dss_one (ds_ret (de_bl))) (dss_nil)) ?_
  refine dss_cons (f := b__law_right_4) (ds_if (dt_cmp (od_ne rfl hr.u64) (de_callK0 (gD := fun ds ws => gI [0] ds ws) (ok_frieze_of c) (hr.mono (by decide)) rfl c.m_frieze_of (takes_of rfl rfl rfl rfl) bk_frieze_of_0_quiddity (dk_cons (de_var 1) (dk_nil)) (al_cons (al_nil))) (de_callT (cd_tuple rfl) rfl c.f_tuple PyProof.Rows.Boot.«tuple» (da_cons (de_var 3) (da_nil))) (by first | rfl | exact nomark _)) (dss_one (ds_ret (de_bl))) (dss_nil)) ?_
  refine dss_cons (f := b__law_right_5) (ds_set 5 sc__law_right.nd (de_cmp (od_eq rfl hr.u64) (de_lc (own := [("line", 16)]) (ts := [16]) rfl sc__law_right.nd (di_of rfl (de_var 3)) (blkOk_by (N := N__law_right) (sc := defScope st__law_right) (by decide +kernel)) (by decide) (fun _ _ _ _ _ => dg_name 16 sc__law_right.nd) (fun _ _ _ _ _ => dts_one (dt_cmp (od_ne rfl hr.u64) (de_sl rfl (de_var 16) (do_some (de_un ud_neg (de_int))) (do_none)) (de_tup (da_cons (de_int) (da_cons (de_int) (da_nil)))) (by first | rfl | exact nomark _))) (fun _ _ _ _ _ => de_var 16)) (de_lst (da_nil)) (by first | rfl | exact nomark _)) rfl (Or.inl rfl)) ?_
  refine dss_cons (f := b__law_right_6) (ds_set 6 sc__law_right.nd (de_and (de_var 5) (de_one (de_cmp (od_eq rfl hr.u64) (de_lc (own := [("line", 16)]) (ts := [16]) rfl sc__law_right.nd (di_of rfl (de_var 3)) (blkOk_by (N := N__law_right) (sc := defScope st__law_right) (by decide +kernel)) (by decide) (fun _ _ _ _ _ => dg_name 16 sc__law_right.nd) (fun _ _ _ _ _ => dts_one (dt_cmp (od_lt rfl hr.u0) (de_callB (cd_min rfl rfl) rfl c.f_min PyProof.Rows.Boot.«min» (da_cons (de_sl rfl (de_var 16) (do_some (de_int)) (do_some (de_un ud_neg (de_int)))) (da_nil))) (de_int) (by first | rfl | exact nomark _))) (fun _ _ _ _ _ => de_var 16)) (de_lst (da_nil)) (by first | rfl | exact nomark _)))) rfl (Or.inl rfl)) ?_
  refine dss_cons (f := b__law_right_7) (ds_if (dt_cmp (od_ne rfl hr.u64) (de_callB (cd_repr rfl hr.gd hr.u64) rfl c.f_repr PyProof.Rows.Boot.«repr» (da_cons (de_lst (da_cons (de_call (gD := fun ds _ => ds) (ok_is_closed c) (hr.mono (by decide)) rfl c.m_is_closed (takes_of rfl rfl rfl rfl) bp_is_closed (da_cons (de_var 1) (da_nil)) (al_cons (al_nil))) (da_cons (de_call (gD := fun ds _ => ds) (ok_is_whole_frieze c) (hr.mono (by decide)) rfl c.m_is_whole_frieze (takes_of rfl rfl rfl rfl) bp_is_whole_frieze (da_cons (de_var 1) (da_nil)) (al_cons (al_nil))) (da_nil)))) (da_nil))) (de_callB (cd_repr rfl hr.gd hr.u64) rfl c.f_repr PyProof.Rows.Boot.«repr» (da_cons (de_lst (da_cons (de_var 5) (da_cons (de_var 6) (da_nil)))) (da_nil))) (by first | rfl | exact nomark _)) (dss_one (ds_ret (de_bl))) (dss_nil)) ?_
  refine dss_cons (f := b__law_right_8) (ds_if (dt_cmp (od_ne rfl hr.u64) (de_lst (da_cons (de_callK0 (gD := fun ds ws => gI [0] ds ws) (ok_is_closed c) (hr.mono (by decide)) rfl c.m_is_closed (takes_of rfl rfl rfl rfl) bk_is_closed_0_quiddity (dk_cons (de_var 1) (dk_nil)) (al_cons (al_nil))) (da_cons (de_callK0 (gD := fun ds ws => gI [0] ds ws) (ok_is_whole_frieze c) (hr.mono (by decide)) rfl c.m_is_whole_frieze (takes_of rfl rfl rfl rfl) bk_is_whole_frieze_0_quiddity (dk_cons (de_var 1) (dk_nil)) (al_cons (al_nil))) (da_nil)))) (de_lst (da_cons (de_var 5) (da_cons (de_var 6) (da_nil)))) (by first | rfl | exact nomark _)) (dss_one (ds_ret (de_bl))) (dss_nil)) ?_
  refine dss_cons (f := b__law_right_9) (ds_asg (de_call (gD := fun ds _ => ds) (ok__law_table c) (hr.mono (by decide)) rfl c.m__law_table (takes_of rfl rfl rfl rfl) bp__law_table (da_cons (de_var 1) (da_nil)) (al_cons (al_nil))) (dg_unp rfl rfl (dgs_cons (dg_name 7 sc__law_right.nd) (dgs_cons (dg_name 8 sc__law_right.nd) (dgs_cons (dg_name 9 sc__law_right.nd) (dgs_cons (dg_name 10 sc__law_right.nd) (dgs_nil))))))) ?_
  refine dss_cons (f := b__law_right_10) (ds_if (dt_bool (dw_or (dt_cmp (od_ne rfl hr.u64) (de_callB (cd_repr rfl hr.gd hr.u64) rfl c.f_repr PyProof.Rows.Boot.«repr» (da_cons (de_call (gD := fun ds _ => ds) (ok_trace_of c) (hr.mono (by decide)) rfl c.m_trace_of (takes_of rfl rfl rfl rfl) bp_trace_of (da_cons (de_var 1) (da_nil)) (al_cons (al_nil))) (da_nil))) (de_callB (cd_repr rfl hr.gd hr.u64) rfl c.f_repr PyProof.Rows.Boot.«repr» (da_cons (de_op (od_add rfl) (de_var 7) (de_var 10)) (da_nil))) (by first | rfl | exact nomark _)) (dw_or (dt_cmp (od_ne rfl hr.u64) (de_callK0 (gD := fun ds ws => gI [0] ds ws) (ok_trace_of c) (hr.mono (by decide)) rfl c.m_trace_of (takes_of rfl rfl rfl rfl) bk_trace_of_0_quiddity (dk_cons (de_var 1) (dk_nil)) (al_cons (al_nil))) (de_op (od_add rfl) (de_var 7) (de_var 10)) (by first | rfl | exact nomark _)) (dw_or1 (dt_bool (dw_and (dt_val (de_var 5)) (dw_and1 (dt_cmp (od_ne rfl hr.u64) (de_op (od_add rfl) (de_var 7) (de_var 10)) (de_un ud_neg (de_int)) (by first | rfl | exact nomark _))))))))) (dss_one (ds_ret (de_bl))) (dss_nil)) ?_
  refine dss_cons (f := b__law_right_11) (ds_if (dt_cmp (od_ne rfl hr.u64) (de_var 5) (de_cmp (od_eq rfl hr.u64) (de_tup (da_cons (de_var 7) (da_cons (de_var 8) (da_cons (de_var 9) (da_cons (de_var 10) (da_nil)))))) (de_tup (da_cons (de_un ud_neg (de_int)) (da_cons (de_int) (da_cons (de_int) (da_cons (de_un ud_neg (de_int)) (da_nil)))))) (by first | rfl | exact nomark _)) (by first | rfl | exact nomark _)) (dss_one (ds_ret (de_bl))) (dss_nil)) ?_
  refine dss_cons (f := b__law_right_12) (ds_for (passes_of rfl) rfl (di_rng1 rfl c.f_range (da_cons (de_int) (da_nil))) (dg_name 11 sc__law_right.nd) (dss_cons (ds_set 4 sc__law_right.nd (de_call (gD := fun ds _ => ds) (ok__law_digit c) (hr.mono (by decide)) rfl c.m__law_digit (takes_of rfl rfl rfl rfl) bp__law_digit (da_cons (de_var 0) (da_cons (de_var 2) (da_nil))) (al_cons (al_cons (al_nil)))) rfl (Or.inr rfl))
    (dss_cons (ds_set 12 sc__law_right.nd (de_op (od_add rfl) (de_var 4) (de_call (gD := fun ds _ => ds) (ok__law_digit c) (hr.mono (by decide)) rfl c.m__law_digit (takes_of rfl rfl rfl rfl) bp__law_digit (da_cons (de_var 0) (da_cons (de_op (od_add rfl) (de_var 2) (de_int)) (da_nil))) (al_cons (al_cons (al_nil))))) rfl (Or.inl rfl))
    (dss_cons (ds_set 13 sc__law_right.nd (de_call (gD := fun ds _ => ds) (ok__law_between c) (hr.mono (by decide)) rfl c.m__law_between (takes_of rfl rfl rfl rfl) bp__law_between (da_cons (de_var 1) (da_cons (de_var 4) (da_cons (de_var 12) (da_nil)))) (al_cons (al_cons (al_cons (al_nil))))) rfl (Or.inl rfl))
    (dss_cons (ds_if (dt_cmp (od_ne rfl hr.u64) (de_callB (cd_repr rfl hr.gd hr.u64) rfl c.f_repr PyProof.Rows.Boot.«repr» (da_cons (de_call (gD := fun ds _ => ds) (ok_entry_of c) (hr.mono (by decide)) rfl c.m_entry_of (takes_of rfl rfl rfl rfl) bp_entry_of (da_cons (de_var 1) (da_cons (de_var 4) (da_cons (de_var 12) (da_nil)))) (al_cons (al_cons (al_cons (al_nil))))) (da_nil))) (de_callB (cd_repr rfl hr.gd hr.u64) rfl c.f_repr PyProof.Rows.Boot.«repr» (da_cons (de_var 13) (da_nil))) (by first | rfl | exact nomark _)) (dss_one (ds_ret (de_bl))) (dss_nil))
    (dss_cons (ds_if (dt_cmp (od_ne rfl hr.u64) (de_callK0 (gD := fun ds ws => gI [2, 1, 0] ds ws) (ok_entry_of c) (hr.mono (by decide)) rfl c.m_entry_of (takes_of rfl rfl rfl rfl) bk_entry_of_0_other_one_quiddity (dk_cons (de_var 12) (dk_cons (de_var 4) (dk_cons (de_var 1) (dk_nil)))) (al_cons (al_cons (al_cons (al_nil))))) (de_var 13) (by first | rfl | exact nomark _)) (dss_one (ds_ret (de_bl))) (dss_nil))
    (dss_cons (ds_set 14 sc__law_right.nd (de_callT (cd_tuple rfl) rfl c.f_tuple PyProof.Rows.Boot.«tuple» (da_cons (de_lc (own := [("mark", 19)]) (ts := [19]) rfl sc__law_right.nd (di_rng2 rfl c.f_range (da_cons (de_op (od_add rfl) (de_var 4) (de_int)) (da_cons (de_var 12) (da_nil)))) (blkOk_by (N := N__law_right) (sc := defScope st__law_right) (by decide +kernel)) (by decide) (fun _ _ _ _ _ => dg_name 19 sc__law_right.nd) (fun _ _ _ _ _ => dts_nil) (fun _ _ _ _ _ => de_ix (ixd rfl hr.u1) (de_var 1) (de_op (od_mod) (de_var 19) (de_var 2)))) (da_nil))) rfl (Or.inl rfl))
    (dss_cons (ds_if (dt_bool (dw_or (dt_cmp (od_ne rfl hr.u64) (de_callB (cd_repr rfl hr.gd hr.u64) rfl c.f_repr PyProof.Rows.Boot.«repr» (da_cons (de_call (gD := fun ds _ => ds) (ok_continuant c) (hr.mono (by decide)) rfl c.m_continuant (takes_of rfl rfl rfl rfl) bp_continuant (da_cons (de_var 14) (da_nil)) (al_cons (al_nil))) (da_nil))) (de_callB (cd_repr rfl hr.gd hr.u64) rfl c.f_repr PyProof.Rows.Boot.«repr» (da_cons (de_call (gD := fun ds _ => ds) (ok__law_continuant c) (hr.mono (by decide)) rfl c.m__law_continuant (takes_of rfl rfl rfl rfl) bp__law_continuant (da_cons (de_var 14) (da_nil)) (al_cons (al_nil))) (da_nil))) (by first | rfl | exact nomark _)) (dw_or1 (dt_cmp (od_ne rfl hr.u64) (de_callK0 (gD := fun ds ws => gI [0] ds ws) (ok_continuant c) (hr.mono (by decide)) rfl c.m_continuant (takes_of rfl rfl rfl rfl) bk_continuant_0_numbers (dk_cons (de_rev rfl (de_var 14)) (dk_nil)) (al_cons (al_nil))) (de_call (gD := fun ds _ => ds) (ok_continuant c) (hr.mono (by decide)) rfl c.m_continuant (takes_of rfl rfl rfl rfl) bp_continuant (da_cons (de_var 14) (da_nil)) (al_cons (al_nil))) (by first | rfl | exact nomark _))))) (dss_one (ds_ret (de_bl))) (dss_nil))
    (dss_one (ds_if (dt_bool (dw_and (dt_cmp (od_lt rfl hr.u0) (de_var 4) (de_var 12) (by first | rfl | exact nomark _)) (dw_and1 (dt_cmp (od_ne rfl hr.u64) (de_call (gD := fun ds _ => ds) (ok_continuant c) (hr.mono (by decide)) rfl c.m_continuant (takes_of rfl rfl rfl rfl) bp_continuant (da_cons (de_var 14) (da_nil)) (al_cons (al_nil))) (de_var 13) (by first | rfl | exact nomark _))))) (dss_one (ds_ret (de_bl))) (dss_nil))))))))))) ?_
  refine dss_cons (f := b__law_right_13) (ds_for (passes_of rfl) rfl (di_rng1 rfl c.f_range (da_cons (de_var 2) (da_nil))) (dg_name 15 sc__law_right.nd) (dss_cons (ds_par2 16 17 rfl sc__law_right.nd (da_cons (de_ix (ixd rfl hr.u1) (de_var 3) (de_var 15)) (da_cons (de_ix (ixd rfl hr.u1) (de_var 3) (de_op (od_mod) (de_op (od_add rfl) (de_var 15) (de_int)) (de_var 2))) (da_nil))))
    (dss_one (ds_for (passes_of rfl) rfl (di_rng2 rfl c.f_range (da_cons (de_int) (da_cons (de_var 2) (da_nil)))) (dg_name 18 sc__law_right.nd) (dss_one (ds_if (dt_cmp (od_ne rfl hr.u64) (de_op (od_sub) (de_op (od_mul rfl) (de_ix (ixd rfl hr.u1) (de_var 16) (de_var 18)) (de_ix (ixd rfl hr.u1) (de_var 17) (de_var 18))) (de_op (od_mul rfl) (de_ix (ixd rfl hr.u1) (de_var 16) (de_op (od_add rfl) (de_var 18) (de_int))) (de_ix (ixd rfl hr.u1) (de_var 17) (de_op (od_sub) (de_var 18) (de_int))))) (de_int) (by first | rfl | exact nomark _)) (dss_one (ds_ret (de_bl))) (dss_nil))))))) ?_
  exact dss_one (f := b__law_right_14) (ds_ret (de_call (gD := fun ds _ => ds) (ok__law_refused c) (hr.mono (by decide)) rfl c.m__law_refused (takes_of rfl rfl rfl rfl) bp__law_refused (da_cons (de_var 1) (da_cons (de_var 2) (da_nil))) (al_cons (al_cons (al_nil)))))
theorem bp__law_right {K : PySem.W.Frag} (fd : FuncData) (F : FunD K d__law_right.name d__law_right.qual d__law_right.params d__law_right.body d__law_right.scope (d__law_right.dvs K) (d__law_right.kws K) (He.fAd K d__law_right.at_) fd) : Bnd K fd p__law_right 2 [] (fun ds _ => ds) :=
  bnd_pos F rfl (fun _ _ _ _ _ _ us hl => match us, hl with | [_, _], _ => rfl) 2 rfl
noncomputable def b__law_quiddity_0 : Fs := sAsg (eLst (aCons (eC (.int 1)) (aCons (eC (.int 1)) (aCons (eC (.int 1)) aNil)))) (gSet 2)
noncomputable def b__law_quiddity_1 : Fs := sFor (iRng1D (aCons (eCall s__law_digit (aCons (eVar 0) (aCons (eOp gSub (eVar 1) (eC (.int 2))) aNil))) aNil)) (gSet 3) (sSeq (sAsg (eCall s__law_digit (aCons (eVar 0) (aCons (eCall gLen (aCons (eVar 2) aNil)) aNil))) (gSet 4))
    (sSeq (sStore (eOp gAdd (eOp gIx (eVar 2) (eVar 4)) (eC (.int 1))) (eVar 2) (eVar 4))
    (sSeq (sStore (eOp gAdd (eOp gIx (eVar 2) (eOp gMod (eOp gAdd (eVar 4) (eC (.int 1))) (eCall gLen (aCons (eVar 2) aNil)))) (eC (.int 1))) (eVar 2) (eOp gMod (eOp gAdd (eVar 4) (eC (.int 1))) (eCall gLen (aCons (eVar 2) aNil))))
    (sAsg (eOp gAdd (eOp gAdd (eSl (eVar 2) oNone (oSome (eOp gAdd (eVar 4) (eC (.int 1))))) (eLst (aCons (eC (.int 1)) aNil))) (eSl (eVar 2) (oSome (eOp gAdd (eVar 4) (eC (.int 1)))) oNone)) (gSet 2)))))
noncomputable def b__law_quiddity_2 : Fs := sRet (eCall gTuple (aCons (eVar 2) aNil))
noncomputable def b__law_quiddity : Fs := sSeq b__law_quiddity_0 (sSeq b__law_quiddity_1 (b__law_quiddity_2))
noncomputable def s__law_quiddity : List D → Hd → Res D := runF 5 b__law_quiddity
theorem ok__law_quiddity {P : Program} {w : World} {K : PySem.W.Frag} {mg : Str → Option Value} {base : Heap} (c : Fct K mg) : FDx P w K mg base d__law_quiddity p__law_quiddity 3 s__law_quiddity := by
  refine fd_ok (k := 2) (N := N__law_quiddity) (fb := b__law_quiddity) c.F__law_quiddity sc__law_quiddity fun cdv A outer s H E hr => ?_
  refine dss_cons (f := b__law_quiddity_0) (ds_set 2 sc__law_quiddity.nd (de_lst (da_cons (de_int) (da_cons (de_int) (da_cons (de_int) (da_nil))))) rfl (Or.inl rfl)) ?_
  refine dss_cons (f := b__law_quiddity_1) (ds_for (passes_of rfl) rfl (di_rng1 rfl c.f_range (da_cons (de_call (gD := fun ds _ => ds) (ok__law_digit c) (hr.mono (by decide)) rfl c.m__law_digit (takes_of rfl rfl rfl rfl) bp__law_digit (da_cons (de_var 0) (da_cons (de_op (od_sub) (de_var 1) (de_int)) (da_nil))) (al_cons (al_cons (al_nil)))) (da_nil))) (dg_name 3 sc__law_quiddity.nd) (dss_cons (ds_set 4 sc__law_quiddity.nd (de_call (gD := fun ds _ => ds) (ok__law_digit c) (hr.mono (by decide)) rfl c.m__law_digit (takes_of rfl rfl rfl rfl) bp__law_digit (da_cons (de_var 0) (da_cons (de_callB (cd_len rfl) rfl c.f_len PyProof.Rows.Boot.«len» (da_cons (de_var 2) (da_nil))) (da_nil))) (al_cons (al_cons (al_nil)))) rfl (Or.inl rfl))
    (dss_cons (ds_store hr.u1 (de_op (od_add rfl) (de_ix (ixd rfl hr.u1) (de_var 2) (de_var 4)) (de_int)) (de_var 2) (de_var 4))
    (dss_cons (ds_store hr.u1 (de_op (od_add rfl) (de_ix (ixd rfl hr.u1) (de_var 2) (de_op (od_mod) (de_op (od_add rfl) (de_var 4) (de_int)) (de_callB (cd_len rfl) rfl c.f_len PyProof.Rows.Boot.«len» (da_cons (de_var 2) (da_nil))))) (de_int)) (de_var 2) (de_op (od_mod) (de_op (od_add rfl) (de_var 4) (de_int)) (de_callB (cd_len rfl) rfl c.f_len PyProof.Rows.Boot.«len» (da_cons (de_var 2) (da_nil)))))
    (dss_one (ds_set 2 sc__law_quiddity.nd (de_op (od_add rfl) (de_op (od_add rfl) (de_sl rfl (de_var 2) (do_none) (do_some (de_op (od_add rfl) (de_var 4) (de_int)))) (de_lst (da_cons (de_int) (da_nil)))) (de_sl rfl (de_var 2) (do_some (de_op (od_add rfl) (de_var 4) (de_int))) (do_none))) rfl (Or.inl rfl))))))) ?_
  exact dss_one (f := b__law_quiddity_2) (ds_ret (de_callT (cd_tuple rfl) rfl c.f_tuple PyProof.Rows.Boot.«tuple» (da_cons (de_var 2) (da_nil))))
theorem bp__law_quiddity {K : PySem.W.Frag} (fd : FuncData) (F : FunD K d__law_quiddity.name d__law_quiddity.qual d__law_quiddity.params d__law_quiddity.body d__law_quiddity.scope (d__law_quiddity.dvs K) (d__law_quiddity.kws K) (He.fAd K d__law_quiddity.at_) fd) : Bnd K fd p__law_quiddity 2 [] (fun ds _ => ds) :=
  bnd_pos F rfl (fun _ _ _ _ _ _ us hl => match us, hl with | [_, _], _ => rfl) 2 rfl
noncomputable def b__law_drawn_0 : Fs := sPar2 2 3 (aCons (eCall s__law_digit (aCons (eVar 0) (aCons (eC (.int 4)) aNil))) (aCons (eCall gList (aCons (eCall s__law_quiddity (aCons (eVar 0) (aCons (eVar 1) aNil))) aNil)) aNil))
noncomputable def b__law_drawn_1 : Fs := sIf (tOf (eOp gEq (eVar 2) (eC (.int 1)))) (sRet (eCall gTuple (aCons (eLc (iOf (eVar 3)) (gSet 6) tYesD (eOp gSub (eCall s__law_digit (aCons (eVar 0) (aCons (eC (.int 7)) aNil))) (eC (.int 2))) [6]) aNil))) sNil
noncomputable def b__law_drawn_2 : Fs := sFor (iRng1D (aCons (eIf (tOf (eOp gGt (eVar 2) (eC (.int 1)))) (eOp gSub (eVar 2) (eC (.int 1))) (eC (.int 0))) aNil)) (gSet 4) (sSeq (sAsg (eCall s__law_digit (aCons (eVar 0) (aCons (eCall gLen (aCons (eVar 3) aNil)) aNil))) (gSet 5))
    (sStore (eOp gSub (eOp gAdd (eOp gIx (eVar 3) (eVar 5)) (eCall s__law_digit (aCons (eVar 0) (aCons (eC (.int 3)) aNil)))) (eC (.int 1))) (eVar 3) (eVar 5)))
noncomputable def b__law_drawn_3 : Fs := sRet (eCall gTuple (aCons (eVar 3) aNil))
noncomputable def b__law_drawn : Fs := sSeq b__law_drawn_0 (sSeq b__law_drawn_1 (sSeq b__law_drawn_2 (b__law_drawn_3)))
noncomputable def s__law_drawn : List D → Hd → Res D := runF 7 b__law_drawn
theorem ok__law_drawn {P : Program} {w : World} {K : PySem.W.Frag} {mg : Str → Option Value} {base : Heap} (c : Fct K mg) : FDx P w K mg base d__law_drawn p__law_drawn 4 s__law_drawn := by
  refine fd_ok (k := 3) (N := N__law_drawn) (fb := b__law_drawn) c.F__law_drawn sc__law_drawn fun cdv A outer s H E hr => ?_
  refine dss_cons (f := b__law_drawn_0) (ds_par2 2 3 rfl sc__law_drawn.nd (da_cons (de_call (gD := fun ds _ => ds) (ok__law_digit c) (hr.mono (by decide)) rfl c.m__law_digit (takes_of rfl rfl rfl rfl) bp__law_digit (da_cons (de_var 0) (da_cons (de_int) (da_nil))) (al_cons (al_cons (al_nil)))) (da_cons (de_callT (cd_list rfl) rfl c.f_list PyProof.Rows.Boot.«list» (da_cons (de_call (gD := fun ds _ => ds) (ok__law_quiddity c) (hr.mono (by decide)) rfl c.m__law_quiddity (takes_of rfl rfl rfl rfl) bp__law_quiddity (da_cons (de_var 0) (da_cons (de_var 1) (da_nil))) (al_cons (al_cons (al_nil)))) (da_nil))) (da_nil)))) ?_
  refine dss_cons (f := b__law_drawn_1) (ds_if (dt_cmp (od_eq rfl hr.u64) (de_var 2) (de_int) (by first | rfl | exact nomark _)) (dss_one (ds_ret (de_callT (cd_tuple rfl) rfl c.f_tuple PyProof.Rows.Boot.«tuple» (da_cons (de_lc (own := [("part", 6)]) (ts := [6]) rfl sc__law_drawn.nd (di_of rfl (de_var 3)) (blkOk_by (N := N__law_drawn) (sc := defScope st__law_drawn) (by decide +kernel)) (by decide) (fun _ _ _ _ _ => dg_name 6 sc__law_drawn.nd) (fun _ _ _ _ _ => dts_nil) (fun _ _ _ _ _ => de_op (od_sub) (de_call (gD := fun ds _ => ds) (ok__law_digit c) (hr.mono (by decide)) rfl c.m__law_digit takes_W0 bp__law_digit (da_cons (de_var 0) (da_cons (de_int) (da_nil))) (al_cons (al_cons (al_nil)))) (de_int))) (da_nil))))) (dss_nil)) ?_
  refine dss_cons (f := b__law_drawn_2) (ds_for (passes_of rfl) rfl (di_rng1 rfl c.f_range (da_cons (de_if (dt_cmp (od_gt) (de_var 2) (de_int) (by first | rfl | exact nomark _)) (de_op (od_sub) (de_var 2) (de_int)) (de_int)) (da_nil))) (dg_name 4 sc__law_drawn.nd) (dss_cons (ds_set 5 sc__law_drawn.nd (de_call (gD := fun ds _ => ds) (ok__law_digit c) (hr.mono (by decide)) rfl c.m__law_digit (takes_of rfl rfl rfl rfl) bp__law_digit (da_cons (de_var 0) (da_cons (de_callB (cd_len rfl) rfl c.f_len PyProof.Rows.Boot.«len» (da_cons (de_var 3) (da_nil))) (da_nil))) (al_cons (al_cons (al_nil)))) rfl (Or.inl rfl))
    (dss_one (ds_store hr.u1 (de_op (od_sub) (de_op (od_add rfl) (de_ix (ixd rfl hr.u1) (de_var 3) (de_var 5)) (de_call (gD := fun ds _ => ds) (ok__law_digit c) (hr.mono (by decide)) rfl c.m__law_digit (takes_of rfl rfl rfl rfl) bp__law_digit (da_cons (de_var 0) (da_cons (de_int) (da_nil))) (al_cons (al_cons (al_nil))))) (de_int)) (de_var 3) (de_var 5))))) ?_
  exact dss_one (f := b__law_drawn_3) (ds_ret (de_callT (cd_tuple rfl) rfl c.f_tuple PyProof.Rows.Boot.«tuple» (da_cons (de_var 3) (da_nil))))
theorem bp__law_drawn {K : PySem.W.Frag} (fd : FuncData) (F : FunD K d__law_drawn.name d__law_drawn.qual d__law_drawn.params d__law_drawn.body d__law_drawn.scope (d__law_drawn.dvs K) (d__law_drawn.kws K) (He.fAd K d__law_drawn.at_) fd) : Bnd K fd p__law_drawn 2 [] (fun ds _ => ds) :=
  bnd_pos F rfl (fun _ _ _ _ _ _ us hl => match us, hl with | [_, _], _ => rfl) 2 rfl
noncomputable def b_law_0 : Fs := sFor (iEnm (eOp gAdd (eSl (eVar 0) oNone (oSome (eC (.int 3)))) (eLst (aCons (eCall gSum (aCons (eVar 0) aNil)) aNil)))) (gUnp 2 (gsCons (gSet 1) (gsCons (gSet 2) gsNil))) (sSeq (sAsg (eCall s__law_draw (aCons (eVar 2) (aCons (eVar 1) aNil))) (gSet 3))
    (sIf (tNotD (tOf (eCall s__law_right (aCons (eVar 3) (aCons (eCall s__law_drawn (aCons (eVar 3) (aCons (eC (.int 9)) aNil))) aNil))))) (sRet (eC (.bl false))) sNil))
noncomputable def b_law_1 : Fs := sRet (eAnd (eOp gEq (eCall s_continuant (aCons (eOp gMul (eTup (aCons (eC (.int 1000)) aNil)) (eC (.int 24))) aNil)) (eCall s__law_continuant (aCons (eOp gMul (eTup (aCons (eC (.int 1000)) aNil)) (eC (.int 24))) aNil))) (eOp gEq (eCall s_continuant (aCons (eTup aNil) aNil)) (eC (.int 1))))
noncomputable def b_law : Fs := sSeq b_law_0 (b_law_1)
noncomputable def s_law : List D → Hd → Res D := runF 4 b_law
theorem ok_law {P : Program} {w : World} {K : PySem.W.Frag} {mg : Str → Option Value} {base : Heap} (c : Fct K mg) : FDx P w K mg base d_law p_law 8 s_law := by
  refine fd_ok (k := 7) (N := N_law) (fb := b_law) c.F_law sc_law fun cdv A outer s H E hr => ?_
  refine dss_cons (f := b_law_0) (ds_for (passes_of rfl) rfl (di_enum rfl rfl c.f_enumerate (de_op (od_add rfl) (de_sl rfl (de_var 0) (do_none) (do_some (de_int))) (de_lst (da_cons (de_callB (cd_sum rfl rfl) rfl c.f_sum PyProof.Rows.Boot.«sum» (da_cons (de_var 0) (da_nil))) (da_nil))))) (dg_unp rfl rfl (dgs_cons (dg_name 1 sc_law.nd) (dgs_cons (dg_name 2 sc_law.nd) (dgs_nil)))) (dss_cons (ds_set 3 sc_law.nd (de_call (gD := fun ds _ => ds) (ok__law_draw c) (hr.mono (by decide)) rfl c.m__law_draw (takes_of rfl rfl rfl rfl) bp__law_draw (da_cons (de_var 2) (da_cons (de_var 1) (da_nil))) (al_cons (al_cons (al_nil)))) rfl (Or.inl rfl))
    (dss_one (ds_if (dt_not (dt_val (de_call (gD := fun ds _ => ds) (ok__law_right c) (hr.mono (by decide)) rfl c.m__law_right (takes_of rfl rfl rfl rfl) bp__law_right (da_cons (de_var 3) (da_cons (de_call (gD := fun ds _ => ds) (ok__law_drawn c) (hr.mono (by decide)) rfl c.m__law_drawn (takes_of rfl rfl rfl rfl) bp__law_drawn (da_cons (de_var 3) (da_cons (de_int) (da_nil))) (al_cons (al_cons (al_nil)))) (da_nil))) (al_cons (al_cons (al_nil)))))) (dss_one (ds_ret (de_bl))) (dss_nil))))) ?_
  exact dss_one (f := b_law_1) (ds_ret (de_and (de_cmp (od_eq rfl hr.u64) (de_call (gD := fun ds _ => ds) (ok_continuant c) (hr.mono (by decide)) rfl c.m_continuant (takes_of rfl rfl rfl rfl) bp_continuant (da_cons (de_op (od_mul rfl) (de_tup (da_cons (de_int) (da_nil))) (de_int)) (da_nil)) (al_cons (al_nil))) (de_call (gD := fun ds _ => ds) (ok__law_continuant c) (hr.mono (by decide)) rfl c.m__law_continuant (takes_of rfl rfl rfl rfl) bp__law_continuant (da_cons (de_op (od_mul rfl) (de_tup (da_cons (de_int) (da_nil))) (de_int)) (da_nil)) (al_cons (al_nil))) (by first | rfl | exact nomark _)) (de_one (de_cmp (od_eq rfl hr.u64) (de_call (gD := fun ds _ => ds) (ok_continuant c) (hr.mono (by decide)) rfl c.m_continuant (takes_of rfl rfl rfl rfl) bp_continuant (da_cons (de_tup (da_nil)) (da_nil)) (al_cons (al_nil))) (de_int) (by first | rfl | exact nomark _)))))
theorem mkF {K : PySem.W.Frag} {h : Heap} {mg : Str → Option Value} (X : K.In h) (G : h.Ns mainGlobals mg) (z : obsK fs fn K = He.valD fn) : Fct K mg where
  f_sum := He.free_ok X G (fact z 0)
  f_enumerate := He.free_ok X G (fact z 1)
  m__law_draw := He.glo_ok X G (fact z 2)
  f_len := He.free_ok X G (fact z 3)
  f_range := He.free_ok X G (fact z 4)
  m__law_table := He.glo_ok X G (fact z 5)
  m__law_between := He.glo_ok X G (fact z 6)
  f_tuple := He.free_ok X G (fact z 7)
  i_MOST_ORDER := He.int_ok X G (fact z 8)
  f_isinstance := He.free_ok X G (fact z 9)
  f_bool := He.free_ok X G (fact z 10)
  f_int := He.free_ok X G (fact z 11)
  m_is_whole := He.glo_ok X G (fact z 12)
  i_MOST_PART := He.int_ok X G (fact z 13)
  m_wrong_numbers := He.glo_ok X G (fact z 14)
  x_BadFrieze := xc_ok (own := true) (T := "ValueError") X G (fact z 15) (fun h => by cases h) (by decide) (by decide) (by decide) (by decide) (by decide) (def_ z 28 (d := d_BadFrieze_init)) rfl (fun _ => ⟨_, rfl⟩) (fun _ _ _ _ _ _ _ us its hu hi => match us, its, hu, hi with | [_, _], [_], _, _ => ⟨_, rfl, rfl⟩)
  m_need_quiddity := He.glo_ok X G (fact z 16)
  m_own_line := He.glo_ok X G (fact z 17)
  m_own_frieze := He.glo_ok X G (fact z 18)
  m_frieze_of := He.glo_ok X G (fact z 19)
  f_repr := He.free_ok X G (fact z 20)
  f_min := He.free_ok X G (fact z 21)
  f_all := He.free_ok X G (fact z 22)
  m_own_closed := He.glo_ok X G (fact z 23)
  m_own_whole := He.glo_ok X G (fact z 24)
  m_is_whole_frieze := He.glo_ok X G (fact z 25)
  m_is_closed := He.glo_ok X G (fact z 26)
  m_own_entry := He.glo_ok X G (fact z 27)
  m_own_trace := He.glo_ok X G (fact z 28)
  m_trace_of := He.glo_ok X G (fact z 29)
  m__law_mixed := He.glo_ok X G (fact z 30)
  m__law_digit := He.glo_ok X G (fact z 31)
  x_BadNumber := xc_ok (own := true) (T := "ValueError") X G (fact z 32) (fun h => by cases h) (by decide) (by decide) (by decide) (by decide) (by decide) (def_ z 29 (d := d_BadNumber_init)) rfl (fun _ => ⟨_, rfl⟩) (fun _ _ _ _ _ _ _ us its hu hi => match us, its, hu, hi with | [_, _], [_], _, _ => ⟨_, rfl, rfl⟩)
  m_entry_of := He.glo_ok X G (fact z 33)
  x_BadRow := xc_ok (own := true) (T := "ValueError") X G (fact z 34) (fun h => by cases h) (by decide) (by decide) (by decide) (by decide) (by decide) (def_ z 30 (d := d_BadRow_init)) rfl (fun _ => ⟨_, rfl⟩) (fun _ _ _ _ _ _ _ us its hu hi => match us, its, hu, hi with | [_, _], [_], _, _ => ⟨_, rfl, rfl⟩)
  m_need_numbers := He.glo_ok X G (fact z 35)
  m_own_continuant := He.glo_ok X G (fact z 36)
  m_continuant := He.glo_ok X G (fact z 37)
  m__law_continuant := He.glo_ok X G (fact z 38)
  e_BadNumber_BadFrieze := He.exm_ok (fact z 39)
  m_BadNumber := He.glo_ok X G (fact z 40)
  e_BadRow_BadFrieze := He.exm_ok (fact z 41)
  m_BadRow := He.glo_ok X G (fact z 42)
  e_BadFrieze_BadFrieze := He.exm_ok (fact z 43)
  m_BadFrieze := He.glo_ok X G (fact z 44)
  e_BadNumber_BadNumber := He.exm_ok (fact z 45)
  e_BadRow_BadNumber := He.exm_ok (fact z 46)
  e_BadFrieze_BadNumber := He.exm_ok (fact z 47)
  e_BadNumber_BadRow := He.exm_ok (fact z 48)
  e_BadRow_BadRow := He.exm_ok (fact z 49)
  e_BadFrieze_BadRow := He.exm_ok (fact z 50)
  m__law_refused := He.glo_ok X G (fact z 51)
  m__law_right := He.glo_ok X G (fact z 52)
  m__law_quiddity := He.glo_ok X G (fact z 53)
  f_list := He.free_ok X G (fact z 54)
  m__law_drawn := He.glo_ok X G (fact z 55)
  m_law := He.glo_ok X G (fact z 56)
  F__law_draw := def_ z 0
  F__law_table := def_ z 1
  F__law_between := def_ z 2
  F_is_whole := def_ z 3
  F_wrong_numbers := def_ z 4
  F_need_quiddity := def_ z 5
  F_own_line := def_ z 6
  F_own_frieze := def_ z 7
  F_frieze_of := def_ z 8
  F_own_closed := def_ z 9
  F_own_whole := def_ z 10
  F_is_whole_frieze := def_ z 11
  F_is_closed := def_ z 12
  F_own_entry := def_ z 13
  F_own_trace := def_ z 14
  F_trace_of := def_ z 15
  F__law_mixed := def_ z 16
  F__law_digit := def_ z 17
  F_entry_of := def_ z 18
  F_need_numbers := def_ z 19
  F_own_continuant := def_ z 20
  F_continuant := def_ z 21
  F__law_continuant := def_ z 22
  F__law_refused := def_ z 23
  F__law_right := def_ z 24
  F__law_quiddity := def_ z 25
  F__law_drawn := def_ z 26
  F_law := def_ z 27
end Lw

set_option Elab.async false
set_option linter.all false
set_option maxRecDepth 100000
set_option maxHeartbeats 1000000
namespace Fz
/-! the mathematics of continuants and 2 x 2 tables -/
abbrev Tb := Int × Int × Int × Int
def stp (t : Tb) (p : Int) : Tb := (t.1 * p + t.2.1, 0 - t.1, t.2.2.1 * p + t.2.2.2, 0 - t.2.2.1)
def tb (xs : List Int) : Tb := xs.foldl stp (1, 0, 0, 1)
def mul (m n : Tb) : Tb := (m.1 * n.1 + m.2.1 * n.2.2.1, m.1 * n.2.1 + m.2.1 * n.2.2.2, m.2.2.1 * n.1 + m.2.2.2 * n.2.2.1, m.2.2.1 * n.2.1 + m.2.2.2 * n.2.2.2)
theorem tb_nil : tb [] = (1, 0, 0, 1) := rfl
theorem tb_app (xs : List Int) (p : Int) : tb (xs ++ [p]) = stp (tb xs) p := by
  unfold tb
  rw [List.foldl_append]
  rfl
theorem fold_mul : ∀ (xs : List Int) (m : Tb), xs.foldl stp m = mul m (tb xs)
  | [], m => by
    obtain ⟨a, b, c, d⟩ := m
    simp [tb, mul]
  | p :: r, m => by
    obtain ⟨a, b, c, d⟩ := m
    have h1 := fold_mul r (stp (a, b, c, d) p)
    have h2 := fold_mul r (stp (1, 0, 0, 1) p)
    have e : tb (p :: r) = r.foldl stp (stp (1, 0, 0, 1) p) := rfl
    rw [List.foldl_cons, h1, e, h2]
    generalize tb r = t
    obtain ⟨x, y, z, w⟩ := t
    simp only [mul, stp, Prod.mk.injEq]
    refine ⟨?_, ?_, ?_, ?_⟩ <;> grind
theorem tb_cons (p : Int) (xs : List Int) : tb (p :: xs) = (p * (tb xs).1 - (tb xs).2.2.1, p * (tb xs).2.1 - (tb xs).2.2.2, (tb xs).1, (tb xs).2.1) := by
  have e : tb (p :: xs) = xs.foldl stp (stp (1, 0, 0, 1) p) := rfl
  rw [e, fold_mul]
  generalize tb xs = t
  obtain ⟨x, y, z, w⟩ := t
  simp only [mul, stp, Prod.mk.injEq]
  refine ⟨?_, ?_, ?_, ?_⟩ <;> grind
theorem tb_det : ∀ xs : List Int, (tb xs).1 * (tb xs).2.2.2 - (tb xs).2.1 * (tb xs).2.2.1 = 1
  | [] => by simp [tb]
  | p :: r => by
    have := tb_det r
    rw [tb_cons]
    generalize tb r = t at this
    obtain ⟨x, y, z, w⟩ := t
    dsimp only at this ⊢
    grind
theorem tb_rev : ∀ xs : List Int, tb xs.reverse = ((tb xs).1, 0 - (tb xs).2.2.1, 0 - (tb xs).2.1, (tb xs).2.2.2)
  | [] => by simp [tb]
  | p :: r => by
    rw [List.reverse_cons, tb_app, tb_rev r, tb_cons]
    generalize tb r = t
    obtain ⟨x, y, z, w⟩ := t
    simp only [stp, Prod.mk.injEq]
    refine ⟨?_, ?_, ?_, ?_⟩ <;> grind
/-- the value of a row -/
def K (xs : List Int) : Int := (tb xs).1
theorem K_rev (xs : List Int) : K xs.reverse = K xs := by
  unfold K
  rw [tb_rev]
def cs (s : Int × Int) (p : Int) : Int × Int := (s.2, p * s.2 - s.1)
theorem cs_tb : ∀ (xs : List Int), xs.foldl cs (0, 1) = (0 - (tb xs).2.1, (tb xs).1) := by
  have h : ∀ (xs : List Int) (a b c d : Int), xs.foldl cs (0 - b, a) = (0 - (xs.foldl stp (a, b, c, d)).2.1, (xs.foldl stp (a, b, c, d)).1) := by
    intro xs
    induction xs with
    | nil => intro a b c d; rfl
    | cons p r ih =>
      intro a b c d
      rw [List.foldl_cons, List.foldl_cons]
      have e : cs (0 - b, a) p = (0 - (0 - a), a * p + b) := by
        unfold cs
        simp only [Prod.mk.injEq]
        constructor <;> grind
      rw [e]
      exact ih (a * p + b) (0 - a) (c * p + d) (0 - c)
  intro xs
  exact h xs 1 0 0 1
theorem K_cs (xs : List Int) : (xs.foldl cs (0, 1)).2 = K xs := by rw [cs_tb]; rfl
/-! ### around a wheel of numbers -/
section
variable (q : List Int)
def at_ (i : Nat) : Int := q.getD (i % q.length) 0
def sg (s m : Nat) : List Int := (List.range m).map fun j => at_ q (s + j)
def E (s : Nat) : Nat → Int
  | 0 => 0
  | 1 => 1
  | j + 2 => at_ q (s + j + 1) * E s (j + 1) - E s j
theorem sg_succ (s m : Nat) : sg q s (m + 1) = sg q s m ++ [at_ q (s + m)] := by
  unfold sg
  rw [List.range_succ, List.map_append]
  rfl
theorem sg_cons (s m : Nat) : sg q s (m + 1) = at_ q s :: sg q (s + 1) m := by
  unfold sg
  rw [List.range_succ_eq_map, List.map_cons, List.map_map]
  congr 1
  refine List.map_congr_left fun j _ => ?_
  show at_ q (s + (j + 1)) = at_ q (s + 1 + j)
  rw [show s + (j + 1) = s + 1 + j by omega]
theorem sg_len (s m : Nat) : (sg q s m).length = m := by simp [sg]
theorem at_per (i : Nat) : at_ q (i + q.length) = at_ q i := by
  unfold at_
  rw [Nat.add_mod_right]
theorem at_mod (i : Nat) : at_ q (i % q.length) = at_ q i := by
  unfold at_
  rw [Nat.mod_mod]
theorem sg_per (s m : Nat) : sg q (s + q.length) m = sg q s m := by
  unfold sg
  refine List.map_congr_left fun j _ => ?_
  rw [show s + q.length + j = s + j + q.length by omega, at_per]
theorem sg_all : sg q 0 q.length = q := by
  refine List.ext_getElem? fun i => ?_
  unfold sg at_
  by_cases h2 : i < q.length
  · rw [List.getElem?_map, List.getElem?_range h2, Option.map_some, Nat.zero_add, Nat.mod_eq_of_lt h2, List.getD_eq_getElem?_getD, List.getElem?_eq_getElem h2]
    rfl
  · rw [List.getElem?_eq_none (by simpa using h2), List.getElem?_eq_none (by simpa using h2)]
theorem E_tb (s : Nat) : ∀ j, tb (sg q (s + 1) j) = (E q s (j + 1), 0 - E q s j, (tb (sg q (s + 1) j)).2.2)
  | 0 => by rfl
  | j + 1 => by
    have ih := E_tb s j
    rw [sg_succ, tb_app]
    generalize tb (sg q (s + 1) j) = t at ih
    obtain ⟨x, y, z, w⟩ := t
    simp only [Prod.mk.injEq] at ih
    obtain ⟨e1, e2, _⟩ := ih
    subst e1 e2
    have e3 : E q s (j + 1 + 1) = at_ q (s + j + 1) * E q s (j + 1) - E q s j := rfl
    rw [e3]
    simp only [stp, Prod.mk.injEq, and_true]
    rw [show s + 1 + j = s + j + 1 by omega]
    grind
theorem E_K (s j : Nat) : E q s (j + 1) = K (sg q (s + 1) j) := by
  unfold K
  rw [E_tb]
theorem E_all (s j : Nat) : tb (sg q (s + 1) (j + 1)) = (E q s (j + 2), 0 - E q s (j + 1), E q (s + 1) (j + 1), 0 - E q (s + 1) j) := by
  have h1 := E_tb q s (j + 1)
  have h2 := E_tb q (s + 1) j
  have h3 : (tb (sg q (s + 1) (j + 1))).2.2 = ((tb (sg q (s + 2) j)).1, (tb (sg q (s + 2) j)).2.1) := by
    rw [sg_cons, tb_cons]
  rw [h1, h3, h2]
theorem E_per (s : Nat) : ∀ j, E q (s + q.length) j = E q s j
  | 0 => rfl
  | 1 => rfl
  | j + 2 => by
    rw [E, E, E_per s j, E_per s (j + 1), show s + q.length + j + 1 = s + j + 1 + q.length by omega, at_per]
theorem E_mod (s : Nat) : ∀ j, E q (s % q.length) j = E q s j
  | 0 => rfl
  | 1 => rfl
  | j + 2 => by
    rw [E, E, E_mod s j, E_mod s (j + 1)]
    congr 2
    unfold at_
    rw [Nat.add_assoc, Nat.mod_add_mod, ← Nat.add_assoc]
theorem E_det (s j : Nat) : E q s (j + 1) * E q (s + 1) (j + 1) - E q s (j + 2) * E q (s + 1) j = 1 := by
  have := tb_det (sg q (s + 1) (j + 1))
  rw [E_all] at this
  dsimp only at this
  grind
def Cl : Prop := ∀ one, one < q.length → E q one (q.length - 1) = 1 ∧ E q one q.length = 0
instance : Decidable (Cl q) := by unfold Cl; infer_instance
/-- turned by one place -/
theorem tb_turn (s m : Nat) (hm : q.length = m + 1) : tb (sg q s q.length) = (at_ q s * (tb (sg q (s + 1) m)).1 - (tb (sg q (s + 1) m)).2.2.1, at_ q s * (tb (sg q (s + 1) m)).2.1 - (tb (sg q (s + 1) m)).2.2.2, (tb (sg q (s + 1) m)).1, (tb (sg q (s + 1) m)).2.1) ∧
    tb (sg q (s + 1) q.length) = stp (tb (sg q (s + 1) m)) (at_ q s) := by
  constructor
  · rw [hm, sg_cons, tb_cons]
  · have e := at_per q s
    rw [hm] at e ⊢
    rw [sg_succ, tb_app, show s + 1 + m = s + (m + 1) by omega, e]
theorem turn_id (s : Nat) (h0 : 0 < q.length) (h : tb (sg q s q.length) = (-1, 0, 0, -1)) : tb (sg q (s + 1) q.length) = (-1, 0, 0, -1) := by
  obtain ⟨m, hm⟩ : ∃ m, q.length = m + 1 := ⟨q.length - 1, by omega⟩
  obtain ⟨h1, h2⟩ := tb_turn q s m hm
  rw [h1] at h
  rw [h2]
  generalize tb (sg q (s + 1) m) = t at h
  obtain ⟨x, y, z, w⟩ := t
  simp only [stp, Prod.mk.injEq] at h ⊢
  obtain ⟨e1, e2, e3, e4⟩ := h
  refine ⟨?_, ?_, ?_, ?_⟩ <;> grind
theorem tr_turn (s : Nat) (h0 : 0 < q.length) : (tb (sg q (s + 1) q.length)).1 + (tb (sg q (s + 1) q.length)).2.2.2 = (tb (sg q s q.length)).1 + (tb (sg q s q.length)).2.2.2 := by
  obtain ⟨m, hm⟩ : ∃ m, q.length = m + 1 := ⟨q.length - 1, by omega⟩
  obtain ⟨h1, h2⟩ := tb_turn q s m hm
  rw [h1, h2]
  generalize tb (sg q (s + 1) m) = t
  obtain ⟨x, y, z, w⟩ := t
  dsimp only [stp]
  grind
theorem trace_eq (h : 1 < q.length) : E q 0 (q.length + 1) - E q 1 (q.length - 1) = (tb q).1 + (tb q).2.2.2 := by
  have h1 := tr_turn q 0 (by omega)
  rw [sg_all] at h1
  rw [← h1]
  obtain ⟨m, hm⟩ : ∃ m, q.length = m + 1 := ⟨q.length - 1, by omega⟩
  have h2 := E_all q 0 m
  rw [← hm] at h2
  rw [h2]
  dsimp only
  rw [show m + 2 = q.length + 1 by omega, show q.length - 1 = m by omega]
  rw [show (0 : Nat) + 1 = 1 from rfl]
  omega
theorem all_id (h0 : 0 < q.length) (h : tb q = (-1, 0, 0, -1)) : ∀ s, tb (sg q s q.length) = (-1, 0, 0, -1)
  | 0 => by rw [sg_all]; exact h
  | s + 1 => turn_id q s h0 (all_id h0 h s)
theorem cl_iff (h : 1 < q.length) : Cl q ↔ tb q = (-1, 0, 0, -1) := by
  obtain ⟨m, hm⟩ : ∃ m, q.length = m + 1 := ⟨q.length - 1, by omega⟩
  constructor
  · intro c
    have e1 := E_all q (q.length - 1) m
    rw [show q.length - 1 + 1 = 0 + q.length by omega, sg_per, ← hm, sg_all] at e1
    rw [show m + 2 = q.length + 1 by omega, show E q (0 + q.length) q.length = E q 0 q.length from E_per q 0 _, show E q (0 + q.length) m = E q 0 m from E_per q 0 _] at e1
    have c1 := c (q.length - 1) (by omega)
    have c0 := c 0 (by omega)
    rw [show m = q.length - 1 by omega, c1.2, c0.1, c0.2] at e1
    have d := tb_det q
    rw [e1] at d ⊢
    dsimp only at d
    simp only [Prod.mk.injEq]
    refine ⟨?_, ?_, ?_, ?_⟩ <;> first | omega | grind
  · intro e one ho
    have h1 := all_id q (by omega) e (one + 1)
    have h2 := all_id q (by omega) e (one + q.length)
    have e1 := E_all q one m
    have e2 := E_all q (one + m) m
    rw [← hm, h1] at e1
    rw [show one + m + 1 = one + q.length by omega, ← hm, h2] at e2
    simp only [Prod.mk.injEq] at e1 e2
    obtain ⟨a1, a2, a3, a4⟩ := e1
    obtain ⟨b1, b2, b3, b4⟩ := e2
    rw [E_per] at b4
    rw [show q.length - 1 = m by omega]
    omega
theorem cl_tr (h : 1 < q.length) (c : Cl q) : (tb q).1 + (tb q).2.2.2 = -2 := by
  rw [(cl_iff q h).mp c]
  decide
end
end Fz

set_option Elab.async false
set_option linter.all false
set_option maxRecDepth 100000
set_option maxHeartbeats 1000000
namespace Lw
open PySem PySem.Spec PyProof.Rows L2 Mi
def tI (xs : List Int) : D := .tup (xs.map .int)
def Sm (xs : List Int) : Prop := ∀ x, x ∈ xs → -1000 ≤ x ∧ x ≤ 1000
theorem is_whole_int (x lo hi : Int) (h : Hd) : s_is_whole [.int x, .int lo, .int hi] h = .ok (.bl (decide (lo ≤ x) && decide (x ≤ hi))) h := by
  by_cases h1 : lo ≤ x <;> simp [s_is_whole, b_is_whole, b_is_whole_0, h1, tqs]
theorem is_whole_non (lo hi : Int) (h : Hd) : s_is_whole [.non, .int lo, .int hi] h = .ok (.bl false) h := by
  simp [s_is_whole, b_is_whole, b_is_whole_0, tqs]
theorem is_whole_bl (b : Bool) (lo hi : Int) (h : Hd) : s_is_whole [.bl b, .int lo, .int hi] h = .ok (.bl false) h := by
  simp [s_is_whole, b_is_whole, b_is_whole_0, tqs]
theorem is_whole_str (x : Str) (lo hi : Int) (h : Hd) : s_is_whole [.str x, .int lo, .int hi] h = .ok (.bl false) h := by
  simp [s_is_whole, b_is_whole, b_is_whole_0, tqs]
theorem sm_mul {x y : Int} (h : -1000 ≤ x ∧ x ≤ 1000) : mulOk x y = true := by
  unfold mulOk
  rw [Bool.or_eq_true, Bool.or_eq_true, decide_eq_true_eq]
  left; left; omega
theorem mul_sm {x y : Int} (h : -1000 ≤ y ∧ y ≤ 1000) : mulOk x y = true := by
  unfold mulOk
  rw [Bool.or_eq_true, Bool.or_eq_true, decide_eq_true_eq, decide_eq_true_eq]
  left; right; omega
theorem own_continuant_ok (xs : List Int) (hs : Sm xs) (hl : xs.length < 1000) (h : Hd) : s_own_continuant [tI xs] h = .ok (.int (Fz.K xs)) h := by
  have key : ∃ env' h', forL (fixS (xs.map .int)) (gSet 3) (sPar2 1 2 (aCons (eVar 2) (aCons (eOp gSub (eOp gMul (eVar 3) (eVar 2)) (eVar 1)) aNil))) most 0 [some (tI xs), some (.int 0), some (.int 1), none] h = .nx env' h' ∧
      (h' = h ∧ ∃ v, env' = [some (tI xs), some (.int ((xs.take xs.length).foldl Fz.cs (0, 1)).1), some (.int ((xs.take xs.length).foldl Fz.cs (0, 1)).2), v]) := by
    refine for_inv xs.length (fun i => .int (xs.getD i 0)) (fun i env' h' => h' = h ∧ ∃ v, env' = [some (tI xs), some (.int ((xs.take i).foldl Fz.cs (0, 1)).1), some (.int ((xs.take i).foldl Fz.cs (0, 1)).2), v]) ⟨rfl, none, rfl⟩ ?_ ?_ (by rw [most_eq]; omega)
    · rintro i env h1 hi ⟨rfl, v, rfl⟩
      have hx := hs (xs.getD i 0) (by rw [List.getD_eq_getElem?_getD, List.getElem?_eq_getElem hi]; exact List.getElem_mem hi)
      have ht : (xs.take (i + 1)).foldl Fz.cs (0, 1) = Fz.cs ((xs.take i).foldl Fz.cs (0, 1)) (xs.getD i 0) := by
        rw [List.take_add_one, List.getElem?_eq_getElem hi, List.foldl_append, List.getD_eq_getElem?_getD, List.getElem?_eq_getElem hi]
        rfl
      refine ⟨?_, ?_⟩
      · rw [fix_item (by simpa using hi)]
        rw [List.getD_eq_getElem?_getD, List.getD_eq_getElem?_getD, List.getElem?_map, List.getElem?_eq_getElem hi]
        rfl
      · generalize hv : xs.getD i 0 = p at *
        rw [ht]
        generalize (xs.take i).foldl Fz.cs (0, 1) = t
        obtain ⟨a, b⟩ := t
        refine ⟨_, _, ?_, rfl, some (.int p), rfl⟩
        simp [stepS, gMul, sm_mul hx, Fz.cs]
    · rintro env h1 ⟨rfl, v, rfl⟩
      have := fix_stop (xs := xs.map D.int) (h := h1)
      rwa [List.length_map] at this
  obtain ⟨env', h', e, rfl, v, rfl⟩ := key
  rw [List.take_length, Fz.K_cs] at e
  simp [s_own_continuant, b_own_continuant, b_own_continuant_0, b_own_continuant_1, b_own_continuant_2, sFor, tI] at e ⊢
  rw [e]
  rfl

theorem getD_int {xs : List Int} {i : Nat} (hi : i < xs.length) : (xs.map D.int).getD i .non = .int (xs.getD i 0) := by
  rw [List.getD_eq_getElem?_getD, List.getD_eq_getElem?_getD, List.getElem?_map, List.getElem?_eq_getElem hi]
  rfl
theorem sm_at {xs : List Int} (hs : Sm xs) {i : Nat} (hi : i < xs.length) : -1000 ≤ xs.getD i 0 ∧ xs.getD i 0 ≤ 1000 := hs (xs.getD i 0) (by rw [List.getD_eq_getElem?_getD, List.getElem?_eq_getElem hi]; exact List.getElem_mem hi)
theorem wrong_ok (xs : List Int) (hs : Sm xs) (least : Int) (h1 : least ≤ xs.length) (h2 : xs.length ≤ 24) (h : Hd) : s_wrong_numbers [tI xs, .int least] h = .ok (.ref h.length) (h ++ [.lst []]) := by
  have key : ∃ h' acc', lcL (enmS (fixS (xs.map .int))) (gUnp 2 (gsCons (gSet 2) (gsCons (gSet 3) gsNil))) (tNotD (tOf (eCall s_is_whole (aCons (eVar 3) (aCons (eOp Mi.gSub (eC (.int 0)) (eC (.int (1000)))) (aCons (eC (.int (1000))) aNil)))))) (eVar 2) [some (tI xs), some (.int least), none, none] h.length most 0 (h ++ [.lst []]) = .ok (.ref h.length) h' ∧
      h'[h.length]? = some (.lst acc') ∧ acc'.length ≤ xs.length ∧ (h' = h ++ [.lst []] ∧ acc' = []) := by
    refine lc_inv xs.length (fun i => .tup [.int (i : Nat), .int (xs.getD i 0)]) (fun i h' acc => h' = h ++ [.lst []] ∧ acc = []) ⟨rfl, rfl⟩ ?_ ?_ (by omega)
    · rintro i h' acc hi ⟨rfl, rfl⟩ ha
      refine ⟨?_, [], _, ?_, ha, ?_, rfl⟩
      · rw [enm_item (fix_item (by simpa using hi)), getD_int hi]
      · obtain ⟨k1, k2⟩ := sm_at hs hi
        generalize xs.getD i 0 = p at *
        simp [turnC, is_whole_int, k1, k2]
      · simp
    · rintro h' acc ⟨rfl, rfl⟩ _
      have := fix_stop (xs := xs.map D.int) (h := h ++ [.lst []])
      rw [List.length_map] at this
      exact enm_stop this
  obtain ⟨h', acc', e, _, _, rfl, rfl⟩ := key
  have hl : ¬ (24 : Int) < xs.length := by omega
  simp [s_wrong_numbers, b_wrong_numbers, b_wrong_numbers_0, b_wrong_numbers_1, tI, tqs, h1, h2, hl, eLc] at e ⊢
  rw [e]
theorem shaped_nil : SeqAt.shaped (.list []) = true := by decide
theorem need_quiddity_ok (xs : List Int) (hs : Sm xs) (h1 : 3 ≤ xs.length) (h2 : xs.length ≤ 24) (h : Hd) : s_need_quiddity [tI xs] h = .ok .non (h ++ [.lst [], .lst []]) := by
  have := wrong_ok xs hs 3 (by omega) h2 h
  simp [s_need_quiddity, b_need_quiddity, b_need_quiddity_0, b_need_quiddity_1, this, eqDeep, maxP, toP, shaped_nil, PyData.eqv, PyData.eqvAll]
theorem need_numbers_ok (xs : List Int) (hs : Sm xs) (h2 : xs.length ≤ 24) (h : Hd) : s_need_numbers [tI xs, .int 0] h = .ok .non (h ++ [.lst [], .lst []]) := by
  have := wrong_ok xs hs 0 (by omega) h2 h
  simp [s_need_numbers, b_need_numbers, b_need_numbers_0, b_need_numbers_1, this, eqDeep, maxP, toP, shaped_nil, PyData.eqv, PyData.eqvAll]
theorem continuant_ok (xs : List Int) (hs : Sm xs) (h2 : xs.length ≤ 24) (h : Hd) : s_continuant [tI xs] h = .ok (.int (Fz.K xs)) (h ++ [.lst [], .lst []]) := by
  have := need_numbers_ok xs hs h2 h
  have h3 := own_continuant_ok xs hs (by omega) (h ++ [.lst [], .lst []])
  simp [s_continuant, b_continuant, b_continuant_0, b_continuant_1, this, h3]
/-! ### lines -/
def lnD (xs : List Int) (s m : Nat) : List D := (List.range m).map fun j => .int (Fz.E xs s j)
theorem lnD_len (xs : List Int) (s m : Nat) : (lnD xs s m).length = m := by simp [lnD]
theorem lnD_succ (xs : List Int) (s m : Nat) : lnD xs s (m + 1) = lnD xs s m ++ [.int (Fz.E xs s m)] := by
  unfold lnD
  rw [List.range_succ, List.map_append]
  rfl
theorem lnD_at (xs : List Int) (s m j : Nat) (h : j < m) : (lnD xs s m)[j]? = some (.int (Fz.E xs s j)) := by
  unfold lnD
  rw [List.getElem?_map, List.getElem?_range h]
  rfl
theorem atI_neg {A : Type} {l : List A} {k : Nat} (h : k < l.length) : atI l (-((k + 1 : Nat) : Int)) = l[l.length - 1 - k]? := by
  unfold atI ixN
  rw [if_neg (by omega), if_pos (by omega)]
  rw [Option.bind_some]
  congr 1
  omega
theorem atI_nat {A : Type} {l : List A} {k : Nat} (h : k < l.length) : atI l (k : Int) = l[k]? := by
  unfold atI ixN
  rw [if_pos (by omega), if_pos (by omega)]
  rfl
theorem fmod_nat {a b : Nat} : Int.fmod (a : Int) (b : Int) = ((a % b : Nat) : Int) := by
  rw [Int.fmod_eq_emod_of_nonneg _ (by omega)]
  rfl
theorem own_line_loop (xs : List Int) (hs : Sm xs) (h0 : 0 < xs.length) (s m : Nat) (hm : m < 1000) (h : Hd) :
    ∃ v, forL (rngS 1 m 1) (gSet 4) (sExpr (eMeth "list" mAppend (eVar 3) (aCons (eOp Mi.gSub (eOp gMul (eOp gIx (eVar 0) (eOp gMod (eOp gAdd (eVar 1) (eVar 4)) (eCall gLen (aCons (eVar 0) aNil)))) (eOp gIx (eVar 3) (eUn gNeg (eC (.int 1))))) (eOp gIx (eVar 3) (eUn gNeg (eC (.int 2))))) aNil)))
      most 0 [some (tI xs), some (.int (s : Nat)), some (.int ((m + 1 : Nat) : Int)), some (.ref h.length), none] (h ++ [.lst [.int 0, .int 1]]) = .nx [some (tI xs), some (.int (s : Nat)), some (.int ((m + 1 : Nat) : Int)), some (.ref h.length), v] (h ++ [.lst (lnD xs s (m + 2))]) := by
  have key := for_inv (src := rngS 1 m 1) (tg := gSet 4) (body := sExpr (eMeth "list" mAppend (eVar 3) (aCons (eOp Mi.gSub (eOp gMul (eOp gIx (eVar 0) (eOp gMod (eOp gAdd (eVar 1) (eVar 4)) (eCall gLen (aCons (eVar 0) aNil)))) (eOp gIx (eVar 3) (eUn gNeg (eC (.int 1))))) (eOp gIx (eVar 3) (eUn gNeg (eC (.int 2))))) aNil)))
    (env := [some (tI xs), some (.int (s : Nat)), some (.int ((m + 1 : Nat) : Int)), some (.ref h.length), none]) (h := h ++ [.lst [.int 0, .int 1]]) m (fun i => .int (1 + (i : Nat) * 1)) (fun i env h' => h' = h ++ [.lst (lnD xs s (i + 2))] ∧ ∃ v, env = [some (tI xs), some (.int (s : Nat)), some (.int ((m + 1 : Nat) : Int)), some (.ref h.length), v])
    ⟨rfl, none, rfl⟩ ?_ ?_ (by rw [most_eq]; omega)
  · obtain ⟨env', h', e, rfl, v, rfl⟩ := key
    exact ⟨v, e⟩
  · rintro i env h' hi ⟨rfl, v, rfl⟩
    refine ⟨rng_item hi, _, _, ?_, rfl, some (.int (1 + (i : Nat) * 1)), rfl⟩
    have e1 : atI (lnD xs s (i + 2)) (-1) = some (.int (Fz.E xs s (i + 1))) := by
      have := atI_neg (l := lnD xs s (i + 2)) (k := 0) (by rw [lnD_len]; omega)
      rw [lnD_len, lnD_at _ _ _ _ (by omega)] at this
      exact this
    have e2 : atI (lnD xs s (i + 2)) (-2) = some (.int (Fz.E xs s i)) := by
      have := atI_neg (l := lnD xs s (i + 2)) (k := 1) (by rw [lnD_len]; omega)
      rw [lnD_len, lnD_at _ _ _ _ (by omega)] at this
      exact this
    have hlt : (s + i + 1) % xs.length < xs.length := Nat.mod_lt _ h0
    have e3 : atI (xs.map D.int) (Int.fmod (s + (1 + (i : Nat))) xs.length) = some (.int (Fz.at_ xs (s + i + 1))) := by
      have e4 : ((s : Int) + (1 + (i : Nat))) = ((s + i + 1 : Nat) : Int) := by omega
      rw [e4, fmod_nat, atI_nat (by simpa using hlt), List.getElem?_map]
      unfold Fz.at_
      rw [List.getD_eq_getElem?_getD, List.getElem?_eq_getElem hlt]
      rfl
    have hx : -1000 ≤ Fz.at_ xs (s + i + 1) ∧ Fz.at_ xs (s + i + 1) ≤ 1000 := sm_at hs hlt
    have hne : xs ≠ [] := fun z => by rw [z] at h0; cases h0
    have hln : (lnD xs s (i + 2)).length < 16777216 := by rw [lnD_len]; omega
    have ee : Fz.E xs s (i + 2) = Fz.at_ xs (s + i + 1) * Fz.E xs s (i + 1) - Fz.E xs s i := rfl
    rw [show i + 1 + 2 = (i + 2) + 1 by omega, lnD_succ xs s (i + 2), ee]
    simp [stepS, tI, gMod, gMul, e3, e1, e2, sm_mul hx, hne, hln]
  · rintro env h' ⟨rfl, v, rfl⟩
    exact rng_stop
theorem own_line_zero (xs : List Int) (s : Nat) (h : Hd) :
    ∃ o, s_own_line [tI xs, .int (s : Nat), .int 0] h = .ok (.ref (h.length + 1)) (h ++ [o, .lst (lnD xs s 1)]) := by
  have e := for_none (tg := gSet 4) (body := sExpr (eMeth "list" mAppend (eVar 3) (aCons (eOp Mi.gSub (eOp gMul (eOp gIx (eVar 0) (eOp gMod (eOp gAdd (eVar 1) (eVar 4)) (eCall gLen (aCons (eVar 0) aNil)))) (eOp gIx (eVar 3) (eUn gNeg (eC (.int 1))))) (eOp gIx (eVar 3) (eUn gNeg (eC (.int 2))))) aNil)))
    (env := [some (tI xs), some (.int (s : Nat)), some (.int 0), some (.ref h.length), none]) (h := h ++ [.lst [.int 0, .int 1]]) (rng_stop (lo := 1) (c := 1) (n := 0) (h := h ++ [.lst [.int 0, .int 1]]))
  refine ⟨.lst [.int 0, .int 1], ?_⟩
  have e6 : rngOk 0 = true := rng_small (by decide) (by decide)
  have e7 : rngOk 1 = true := rng_small (by decide) (by decide)
  have e8 : ((0 : Int) - 1).toNat = 0 := by decide
  simp [s_own_line, b_own_line, b_own_line_0, b_own_line_1, b_own_line_2, sFor, iRng2D, e6, e7, e8] at e ⊢
  rw [e]
  simp [Mi.cutD, HT.sIx, lnD, Fz.E]
end Lw

set_option Elab.async false
set_option linter.all false
set_option maxRecDepth 100000
set_option maxHeartbeats 1000000
namespace Lw
open PySem PySem.Spec PyProof.Rows L2 Mi
theorem seq_nx {f g : Fs} {env env1 : En} {h h1 : Hd} (e : f env h = .nx env1 h1) : sSeq f g env h = g env1 h1 := by
  show (match f env h with
    | .nx env1 h1 => g env1 h1
    | r => r) = _
  rw [e]
theorem own_line_ok (xs : List Int) (hs : Sm xs) (h0 : 0 < xs.length) (s n : Nat) (hn : n < 1000) (h : Hd) :
    ∃ o, s_own_line [tI xs, .int (s : Nat), .int (n : Nat)] h = .ok (.ref (h.length + 1)) (h ++ [o, .lst (lnD xs s (n + 1))]) := by
  cases n with
  | zero =>
    have z : (((0 : Nat) : Int)) = 0 := rfl
    rw [z]
    exact own_line_zero xs s h
  | succ m =>
    obtain ⟨v, e⟩ := own_line_loop xs hs h0 s m (by omega) h
    refine ⟨.lst (lnD xs s (m + 2)), ?_⟩
    have e5 : (((m + 1 : Nat) : Int) - 1).toNat = m := by omega
    have e6 : rngOk ((m + 1 : Nat) : Int) = true := rng_small (by omega) (by omega)
    have e7 : rngOk 1 = true := rng_small (by decide) (by decide)
    have s0 : b_own_line_0 [some (tI xs), some (.int (s : Nat)), some (.int ((m + 1 : Nat) : Int)), none, none] h = .nx [some (tI xs), some (.int (s : Nat)), some (.int ((m + 1 : Nat) : Int)), some (.ref h.length), none] (h ++ [.lst [.int 0, .int 1]]) := by
      simp [b_own_line_0]
    have s1 : b_own_line_1 [some (tI xs), some (.int (s : Nat)), some (.int ((m + 1 : Nat) : Int)), some (.ref h.length), none] (h ++ [.lst [.int 0, .int 1]]) = .nx [some (tI xs), some (.int (s : Nat)), some (.int ((m + 1 : Nat) : Int)), some (.ref h.length), v] (h ++ [.lst (lnD xs s (m + 2))]) := by
      unfold b_own_line_1
      rw [sFor_ok (rng2_ok (i := 1) (j := ((m + 1 : Nat) : Int)) (h1 := h ++ [.lst [.int 0, .int 1]]) rfl e7 e6), e5]
      exact e
    have ec : Mi.cutD (lnD xs s (m + 2)) none (some (((m + 1 : Nat) : Int) + 1)) = lnD xs s (m + 2) := by
      have e8 : ¬ (((m + 1 : Nat) : Int) + 1 < 0) := by omega
      have e9 : (((m + 1 : Nat) : Int) + 1).toNat = m + 2 := by omega
      unfold Mi.cutD HT.sIx
      dsimp only
      rw [if_neg e8, e9, lnD_len, Nat.min_self, List.drop_zero, Nat.sub_zero, List.take_of_length_le (by rw [lnD_len]; omega)]
    have s2 : b_own_line_2 [some (tI xs), some (.int (s : Nat)), some (.int ((m + 1 : Nat) : Int)), some (.ref h.length), v] (h ++ [.lst (lnD xs s (m + 2))]) = .rt (.ref (h.length + 1)) (h ++ [.lst (lnD xs s (m + 2)), .lst (lnD xs s (m + 2))]) := by
      generalize ((m + 1 : Nat) : Int) = mm at *
      simp [b_own_line_2, ec]
    have fin : b_own_line [some (tI xs), some (.int (s : Nat)), some (.int ((m + 1 : Nat) : Int)), none, none] h = .rt (.ref (h.length + 1)) (h ++ [.lst (lnD xs s (m + 2)), .lst (lnD xs s (m + 2))]) := by
      unfold b_own_line
      rw [seq_nx s0, seq_nx s1, s2]
    show (match b_own_line [some (tI xs), some (.int (s : Nat)), some (.int ((m + 1 : Nat) : Int)), none, none] h with
      | .nx _ h' => Res.ok D.non h'
      | .rt d h' => .ok d h'
      | .ex e _ h' => .ex e h'
      | _ => .no) = _
    rw [fin]
theorem own_entry_ok (xs : List Int) (hs : Sm xs) (h0 : 0 < xs.length) (s n : Nat) (hn : n < 1000) (one other : Int) (e1 : one = (s : Nat)) (e2 : other = ((s + n : Nat) : Int)) (h : Hd) :
    ∃ g, s_own_entry [tI xs, .int one, .int other] h = .ok (.int (Fz.E xs s n)) (h ++ g) := by
  obtain ⟨o, e⟩ := own_line_ok xs hs h0 s n hn h
  refine ⟨[o, .lst (lnD xs s (n + 1))], ?_⟩
  have e3 : other - one = ((n : Nat) : Int) := by omega
  have e4 : atI (lnD xs s (n + 1)) (-1) = some (.int (Fz.E xs s n)) := by
    have := atI_neg (l := lnD xs s (n + 1)) (k := 0) (by rw [lnD_len]; omega)
    rw [lnD_len, lnD_at _ _ _ _ (by omega)] at this
    exact this
  subst e1
  simp [s_own_entry, b_own_entry, b_own_entry_0, e3, e, e4]
/-- the frieze's lines as lists -/
structure FzL (xs : List Int) (h0 h : Hd) (k : Nat) (rs : List D) : Prop where
  kp : Kp [] h0 h
  at_ : h[k]? = some (.lst rs)
  len : rs.length = xs.length
  ln : ∀ j, j < xs.length → ∃ r, rs[j]? = some (.ref r) ∧ h[r]? = some (.lst (lnD xs j (xs.length + 1)))
theorem own_frieze_ok (xs : List Int) (hs : Sm xs) (h0 : 0 < xs.length) (hl : xs.length ≤ 24) (h : Hd) : ∃ h' k rs, s_own_frieze [tI xs] h = .ok (.ref k) h' ∧ FzL xs h h' k rs := by
  have key := lc_inv (src := rngS 0 xs.length 1) (tg := gSet 1) (tst := tYesD) (el := eCall s_own_line (aCons (eVar 0) (aCons (eVar 1) (aCons (eCall gLen (aCons (eVar 0) aNil)) aNil)))) (env := [some (tI xs), none]) (h := h) xs.length (fun i => .int (0 + (i : Nat) * 1))
    (fun i h1 acc => Kp [] h h1 ∧ acc.length = i ∧ ∀ j, j < i → ∃ r, r ≠ h.length ∧ acc[j]? = some (.ref r) ∧ h1[r]? = some (.lst (lnD xs j (xs.length + 1)))) ⟨Kp.app, rfl, fun j hj => absurd hj (Nat.not_lt_zero _)⟩ ?_ ?_ (by omega)
  · obtain ⟨h', acc, e, e1, _, kp, l1, ln⟩ := key
    refine ⟨h', h.length, acc, ?_, kp, e1, l1, fun j hj => ?_⟩
    · have e6 : rngOk (xs.length : Int) = true := rng_small (by omega) (by omega)
      have fin : b_own_frieze_0 [some (tI xs), none] h = .rt (.ref h.length) h' := by
        unfold b_own_frieze_0
        show (match eLc _ _ _ _ _ [some (tI xs), none] h with
          | .ok d h1 => SRes.rt d h1
          | .ex e h1 => .ex e [some (tI xs), none] h1
          | .no => .no) = _
        rw [eLc_ok (rng1_ok (j := (xs.length : Int)) (h1 := h) (by simp [tI]) e6), Int.toNat_natCast]
        have e7 : wipeE [some (tI xs), none] [1] = [some (tI xs), none] := rfl
        rw [e7, e]
      show (match b_own_frieze_0 [some (tI xs), none] h with
        | .nx _ h' => Res.ok D.non h'
        | .rt d h' => .ok d h'
        | .ex e _ h' => .ex e h'
        | _ => .no) = _
      rw [fin]
    · obtain ⟨r, _, r1, r2⟩ := ln j hj
      exact ⟨r, r1, r2⟩
  · rintro i h1 acc hi ⟨kp, l1, ln⟩ ha
    have e8 : (0 + (i : Nat) * 1 : Int) = ((i : Nat) : Int) := by omega
    obtain ⟨o, e⟩ := own_line_ok xs hs h0 i xs.length (by omega) h1
    have hk1 : h.length < h1.length := (List.getElem?_eq_some_iff.mp ha).1
    refine ⟨rng_item hi, [.ref (h1.length + 1)], h1 ++ [o, .lst (lnD xs i (xs.length + 1))], ?_, app_old ha, ?_, ?_, ?_⟩
    · rw [e8]
      simp [turnC, tI] at e ⊢
      rw [e]
    · exact (kp.trans Kp.app).setNew (Nat.le_refl _)
    · rw [List.length_append, l1]; rfl
    · intro j hj
      by_cases hji : j < i
      · obtain ⟨r, r0, r1, r2⟩ := ln j hji
        refine ⟨r, r0, ?_, ?_⟩
        · rw [List.getElem?_append_left (by omega)]; exact r1
        · rw [List.getElem?_set_ne (Ne.symm r0)]
          exact app_old r2
      · have : j = i := by omega
        subst this
        refine ⟨h1.length + 1, by omega, ?_, ?_⟩
        · rw [List.getElem?_append_right (by omega), l1, Nat.sub_self]; rfl
        · rw [List.getElem?_set_ne (by omega), app_at]; rfl
  · rintro h1 acc _ _
    exact rng_stop
end Lw

set_option Elab.async false
set_option linter.all false
set_option maxRecDepth 100000
set_option maxHeartbeats 1000000
namespace Lw
open PySem PySem.Spec PyProof.Rows L2 Mi
def ln (xs : List Int) (s m : Nat) : List Int := (List.range m).map fun j => Fz.E xs s j
theorem lnD_eq (xs : List Int) (s m : Nat) : lnD xs s m = (ln xs s m).map .int := by
  unfold lnD ln
  rw [List.map_map]
  rfl
theorem ln_len (xs : List Int) (s m : Nat) : (ln xs s m).length = m := by simp [ln]
theorem ln_at (xs : List Int) (s m j : Nat) (h : j < m) : (ln xs s m)[j]? = some (Fz.E xs s j) := by
  unfold ln
  rw [List.getElem?_map, List.getElem?_range h]
  rfl
theorem getD_some {A : Type} {l : List A} {i : Nat} {a d : A} (e : l[i]? = some a) : l.getD i d = a := by
  rw [List.getD_eq_getElem?_getD, e]
  rfl
theorem kp_app0 {h g : Hd} {k : Nat} {o : Ob} (e : h[k]? = some o) : (h ++ g)[k]? = some o := app_old e
/-- a comprehension over the frieze's lines -/
theorem frz_comp {xs : List Int} {h0 h : Hd} {k : Nat} {rs : List D} (F : FzL xs h0 h k rs) (hl : xs.length ≤ 24) (el : Fe) (v : Nat → D) (c : D)
    (hel : ∀ j r h3, j < xs.length → h3[r]? = some (.lst (lnD xs j (xs.length + 1))) → ∃ h4, el [some c, some (.ref r)] h3 = .ok (v j) h4 ∧ Kp [] h3 h4) :
    ∃ h', lcL (liveS k) (gSet 1) tYesD el [some c, none] h.length most 0 (h ++ [.lst []]) = .ok (.ref h.length) h' ∧ h'[h.length]? = some (.lst ((List.range xs.length).map v)) ∧ Kp [] h h' := by
  have hk : k < h.length := (List.getElem?_eq_some_iff.mp F.at_).1
  have key := lc_inv (src := liveS k) (tg := gSet 1) (tst := tYesD) (el := el) (env := [some c, none]) (h := h) xs.length (fun i => rs.getD i .non)
    (fun i h1 acc => Kp [] h h1 ∧ acc = (List.range i).map v) ⟨Kp.app, rfl⟩ ?_ ?_ (by omega)
  · obtain ⟨h', acc, e, e1, _, kp, rfl⟩ := key
    exact ⟨h', e, e1, kp⟩
  · rintro i h1 acc hi ⟨kp, rfl⟩ ha
    obtain ⟨r, r1, r2⟩ := F.ln i hi
    obtain ⟨h4, e4, kp4⟩ := hel i r h1 hi (kp.at_ r _ (by simp) r2)
    refine ⟨?_, [v i], h4, ?_, kp4.at_ _ _ (by simp) ha, (kp.trans kp4).setNew (Nat.le_refl _), ?_⟩
    · exact live_item (.inl (kp.at_ k _ (by simp) F.at_)) (by rw [F.len]; exact hi)
    · rw [getD_some r1]
      show (match el [some c, some (.ref r)] h1 with
        | .ok y h3 => Res.ok [y] h3
        | _ => .no) = _
      rw [e4]
    · rw [List.range_succ, List.map_append]; rfl
  · rintro h1 acc ⟨kp, _⟩ _
    have := live_stop (h := h1) (.inl (kp.at_ k _ (by simp) F.at_))
    rwa [F.len] at this
def due (xs : List Int) : D := .tup ((List.range xs.length).map fun j => .tup (lnD xs j (xs.length + 1)))
structure Good (xs : List Int) : Prop where
  sm : Sm xs
  lo : 3 ≤ xs.length
  hi : xs.length ≤ 9
theorem Good.pos {xs : List Int} (g : Good xs) : 0 < xs.length := by have := g.lo; omega
theorem Good.nq {xs : List Int} (g : Good xs) (h : Hd) : s_need_quiddity [tI xs] h = .ok .non (h ++ [.lst [], .lst []]) := need_quiddity_ok xs g.sm g.lo (by have := g.hi; omega) h
theorem frieze_of_ok {xs : List Int} (g : Good xs) (h : Hd) : ∃ h', s_frieze_of [tI xs] h = .ok (due xs) h' ∧ Kp [] h h' := by
  obtain ⟨h1, k, rs, e1, F⟩ := own_frieze_ok xs g.sm g.pos (by have := g.hi; omega) (h ++ [.lst [], .lst []])
  obtain ⟨h', e2, e3, kp⟩ := frz_comp F (by have := g.hi; omega) (eCall gTuple (aCons (eVar 1) aNil)) (fun j => .tup (lnD xs j (xs.length + 1))) (tI xs) fun j r h3 hj e => ⟨h3, by simp [e], Kp.refl⟩
  refine ⟨h', ?_, (Kp.app.trans F.kp).trans kp⟩
  have i1 : iOf (eCall s_own_frieze (aCons (eVar 0) aNil)) [some (tI xs), none] (h ++ [.lst [], .lst []]) = .ok (liveS k) h1 := by
    have := F.at_
    simp [e1, this]
  have b1 : b_frieze_of_1 [some (tI xs), none] (h ++ [.lst [], .lst []]) = .rt (due xs) h' := by
    unfold b_frieze_of_1
    refine ret_ok ?_
    refine (call_ok (cons_ok ((eLc_ok i1).trans (show _ = Res.ok (D.ref h1.length) h' from e2)) rfl)).trans ?_
    simp [e3, due]
  have b0 : b_frieze_of_0 [some (tI xs), none] h = .nx [some (tI xs), none] (h ++ [.lst [], .lst []]) := expr_ok ((call_ok (ds := [tI xs]) rfl).trans (g.nq h))
  exact run_rt [some (tI xs), none] ((seq_nx b0).trans b1)
theorem cut_end (xs : List Int) (j n : Nat) (hn : 1 ≤ n) : Mi.cutD (lnD xs j (n + 1)) (some (-2)) none = [.int (Fz.E xs j (n - 1)), .int (Fz.E xs j n)] := by
  obtain ⟨m, rfl⟩ : ∃ m, n = m + 1 := ⟨n - 1, by omega⟩
  unfold Mi.cutD HT.sIx
  dsimp only
  rw [lnD_len, if_pos (by decide)]
  have e : (-2 + ((m + 1 + 1 : Nat) : Int)).toNat = m := by omega
  rw [e, lnD_succ, lnD_succ, List.append_assoc, List.drop_left' (lnD_len xs j m)]
  rw [show m + 1 + 1 - m = 2 by omega]
  rfl
theorem clB_iff (xs : List Int) (h0 : 0 < xs.length) : (((List.range xs.length).map fun j => decide ([Fz.E xs j (xs.length - 1), Fz.E xs j xs.length] = [1, 0])).all id) = decide (Fz.Cl xs) := by
  rw [Bool.eq_iff_iff, decide_eq_true_eq, List.all_eq_true]
  constructor
  · intro h one ho
    have := h _ (List.mem_map.mpr ⟨one, List.mem_range.mpr ho, rfl⟩)
    simpa using this
  · intro c b hb
    obtain ⟨j, hj, rfl⟩ := List.mem_map.mp hb
    obtain ⟨h1, h2⟩ := c j (List.mem_range.mp hj)
    simp [h1, h2]
theorem own_closed_ok {xs : List Int} (g : Good xs) (h : Hd) : ∃ h', s_own_closed [tI xs] h = .ok (.bl (decide (Fz.Cl xs))) h' ∧ Kp [] h h' := by
  obtain ⟨h1, k, rs, e1, F⟩ := own_frieze_ok xs g.sm g.pos (by have := g.hi; omega) h
  obtain ⟨h', e2, e3, kp⟩ := frz_comp F (by have := g.hi; omega) (eOp gEq (eSl (eVar 1) (oSome (eUn gNeg (eC (.int 2)))) oNone) (eLst (aCons (eC (.int 1)) (aCons (eC (.int 0)) aNil)))) (fun j => .bl (decide ([Fz.E xs j (xs.length - 1), Fz.E xs j xs.length] = [1, 0]))) (tI xs) fun j r h3 hj e => ⟨h3 ++ [.lst [.int (Fz.E xs j (xs.length - 1)), .int (Fz.E xs j xs.length)], .lst [.int 1, .int 0]], by
    have s1 : eSl (eVar 1) (oSome (eUn gNeg (eC (.int 2)))) oNone [some (tI xs), some (.ref r)] h3 = .ok (.ref h3.length) (h3 ++ [.lst [.int (Fz.E xs j (xs.length - 1)), .int (Fz.E xs j xs.length)]]) := by
      simp [e, cut_end xs j xs.length (by have := g.lo; omega)]
    have s2 : eLst (aCons (eC (.int 1)) (aCons (eC (.int 0)) aNil)) [some (tI xs), some (.ref r)] (h3 ++ [.lst [.int (Fz.E xs j (xs.length - 1)), .int (Fz.E xs j xs.length)]]) = .ok (.ref (h3.length + 1)) (h3 ++ [.lst [.int (Fz.E xs j (xs.length - 1)), .int (Fz.E xs j xs.length)], .lst [.int 1, .int 0]]) := by
      simp
    rw [op_ok s1 s2]
    exact eq_lists (l := [Fz.E xs j (xs.length - 1), Fz.E xs j xs.length]) (m := [1, 0]) (k := id) (by rw [app_at0]; rfl) (by rw [app_at]; rfl), Kp.app⟩
  refine ⟨h', ?_, F.kp.trans kp⟩
  have i1 : iOf (eCall s_own_frieze (aCons (eVar 0) aNil)) [some (tI xs), none] h = .ok (liveS k) h1 := by
    have := F.at_
    simp [e1, this]
  have b0 : b_own_closed_0 [some (tI xs), none] h = .rt (.bl (decide (Fz.Cl xs))) h' := by
    unfold b_own_closed_0
    refine ret_ok ?_
    refine (call_ok (cons_ok ((eLc_ok i1).trans (show _ = Res.ok (D.ref h1.length) h' from e2)) rfl)).trans ?_
    have hb : boolsD ((List.range xs.length).map fun j => D.bl (decide ([Fz.E xs j (xs.length - 1), Fz.E xs j xs.length] = [1, 0]))) = some ((List.range xs.length).map fun j => decide ([Fz.E xs j (xs.length - 1), Fz.E xs j xs.length] = [1, 0])) := by
      rw [show ((List.range xs.length).map fun j => D.bl (decide ([Fz.E xs j (xs.length - 1), Fz.E xs j xs.length] = [1, 0]))) = ((List.range xs.length).map fun j => decide ([Fz.E xs j (xs.length - 1), Fz.E xs j xs.length] = [1, 0])).map D.bl by rw [List.map_map]; rfl]
      exact bools_map _
    unfold gAll
    dsimp only [lstD]
    rw [e3]
    dsimp only
    rw [hb]
    dsimp only
    rw [clB_iff xs g.pos]
  exact run_rt [some (tI xs), none] b0
theorem is_closed_ok {xs : List Int} (g : Good xs) (h : Hd) : ∃ h', s_is_closed [tI xs] h = .ok (.bl (decide (Fz.Cl xs))) h' ∧ Kp [] h h' := by
  obtain ⟨h', e, kp⟩ := own_closed_ok g (h ++ [.lst [], .lst []])
  exact ⟨h', run_rt [some (tI xs)] ((seq_nx (expr_ok ((call_ok (ds := [tI xs]) rfl).trans (g.nq h)))).trans (ret_ok ((call_ok (ds := [tI xs]) rfl).trans e))), Kp.app.trans kp⟩
/-! ### the least of the inner part -/
def mid (xs : List Int) (j : Nat) : List Int := (List.range (xs.length - 1)).map fun t => Fz.E xs j (t + 1)
theorem cut_mid (xs : List Int) (j n : Nat) (hn : n = xs.length) (h3 : 3 ≤ n) : Mi.cutD (lnD xs j (n + 1)) (some 1) (some (-1)) = (mid xs j).map .int := by
  unfold Mi.cutD HT.sIx
  dsimp only
  rw [lnD_len, if_pos (show (-1 : Int) < 0 by decide), if_neg (show ¬ (1 : Int) < 0 by decide)]
  have e : (-1 + ((n + 1 : Nat) : Int)).toNat = n := by omega
  have e2 : min (1 : Int).toNat (n + 1) = 1 := by show min 1 (n + 1) = 1; omega
  rw [e, e2]
  unfold lnD mid
  refine List.ext_getElem? fun i => ?_
  rw [List.getElem?_take]
  by_cases hi : i < n - 1
  · rw [if_pos hi, List.getElem?_drop, List.getElem?_map, List.getElem?_range (by omega), List.getElem?_map, List.getElem?_map, List.getElem?_range (by omega)]
    rw [Nat.add_comm 1 i]
    rfl
  · rw [if_neg hi, List.getElem?_eq_none (by simp; omega)]
theorem mid_ne (xs : List Int) (j : Nat) (h3 : 3 ≤ xs.length) : ∃ a r, mid xs j = a :: r := by
  obtain ⟨m, hm⟩ : ∃ m, xs.length - 1 = m + 1 := ⟨xs.length - 2, by omega⟩
  unfold mid
  rw [hm, List.range_succ_eq_map]
  exact ⟨_, _, rfl⟩
def Wh (xs : List Int) : Prop := ∀ j, j < xs.length → 1 ≤ minL (mid xs j)
instance (xs : List Int) : Decidable (Wh xs) := by unfold Wh; infer_instance
theorem wh_min (xs : List Int) (h0 : 0 < xs.length) : (minL ((List.range xs.length).map fun j => minL (mid xs j)) > 0) ↔ Wh xs := by
  obtain ⟨m, hm⟩ : ∃ m, xs.length = m + 1 := ⟨xs.length - 1, by omega⟩
  have e : ∃ a r, ((List.range xs.length).map fun j => minL (mid xs j)) = a :: r := by
    rw [hm, List.range_succ_eq_map]
    exact ⟨_, _, rfl⟩
  obtain ⟨a, r, e⟩ := e
  obtain ⟨s1, s2⟩ := minL_spec r a
  rw [← e] at s1 s2
  constructor
  · intro h j hj
    have := s2 _ (List.mem_map.mpr ⟨j, List.mem_range.mpr hj, rfl⟩)
    omega
  · intro w
    obtain ⟨j, hj, e2⟩ := List.mem_map.mp s1
    have := w j (List.mem_range.mp hj)
    omega
theorem gMin_lst {h : Hd} {r : Nat} {a : Int} {t l : List Int} (hl : l = a :: t) (e : h[r]? = some (.lst (l.map .int))) : gMin [.ref r] h = .ok (.int (minL l)) h := by
  subst hl
  unfold gMin gMinMax
  dsimp only [seqD]
  rw [e]
  dsimp only
  rw [Mi.ints_map]
theorem own_whole_ok {xs : List Int} (g : Good xs) (h : Hd) : ∃ h', s_own_whole [tI xs] h = .ok (.bl (decide (Fz.Cl xs ∧ Wh xs))) h' ∧ Kp [] h h' := by
  obtain ⟨h0, e0, kp0⟩ := own_closed_ok g h
  have c0 : eCall s_own_closed (aCons (eVar 0) aNil) [some (tI xs), none] h = .ok (.bl (decide (Fz.Cl xs))) h0 := (call_ok (ds := [tI xs]) rfl).trans e0
  by_cases hc : Fz.Cl xs
  · obtain ⟨h1, k, rs, e1, F⟩ := own_frieze_ok xs g.sm g.pos (by have := g.hi; omega) h0
    obtain ⟨h', e2, e3, kp⟩ := frz_comp F (by have := g.hi; omega) (eCall gMin (aCons (eSl (eVar 1) (oSome (eC (.int 1))) (oSome (eUn gNeg (eC (.int 1))))) aNil)) (fun j => .int (minL (mid xs j))) (tI xs) fun j r h3 hj e => ⟨h3 ++ [.lst ((mid xs j).map .int)], by
      have s1 : eSl (eVar 1) (oSome (eC (.int 1))) (oSome (eUn gNeg (eC (.int 1)))) [some (tI xs), some (.ref r)] h3 = .ok (.ref h3.length) (h3 ++ [.lst ((mid xs j).map .int)]) := by
        simp [e, cut_mid xs j xs.length rfl g.lo]
      obtain ⟨a, t, ea⟩ := mid_ne xs j g.lo
      exact (call_ok (cons_ok s1 rfl)).trans (gMin_lst ea (by rw [app_at0]; rfl)), Kp.app⟩
    refine ⟨h', ?_, (kp0.trans F.kp).trans kp⟩
    have i1 : iOf (eCall s_own_frieze (aCons (eVar 0) aNil)) [some (tI xs), none] h0 = .ok (liveS k) h1 := by
      have := F.at_
      simp [e1, this]
    have m1 : eCall gMin (aCons (eLc (iOf (eCall s_own_frieze (aCons (eVar 0) aNil))) (gSet 1) tYesD (eCall gMin (aCons (eSl (eVar 1) (oSome (eC (.int 1))) (oSome (eUn gNeg (eC (.int 1))))) aNil)) [1]) aNil) [some (tI xs), none] h0 = .ok (.int (minL ((List.range xs.length).map fun j => minL (mid xs j)))) h' := by
      refine (call_ok (cons_ok ((eLc_ok i1).trans (show _ = Res.ok (D.ref h1.length) h' from e2)) rfl)).trans ?_
      obtain ⟨m, hm⟩ : ∃ m, xs.length = m + 1 := ⟨xs.length - 1, by have := g.pos; omega⟩
      have en : ∃ a r, ((List.range xs.length).map fun j => minL (mid xs j)) = a :: r := by
        rw [hm, List.range_succ_eq_map]
        exact ⟨_, _, rfl⟩
      obtain ⟨a, r, en⟩ := en
      refine gMin_lst en ?_
      rw [e3, List.map_map]
      rfl
    have b0 : b_own_whole_0 [some (tI xs), none] h = .rt (.bl (decide (Fz.Cl xs ∧ Wh xs))) h' := by
      unfold b_own_whole_0
      refine ret_ok ?_
      show (eCall s_own_closed (aCons (eVar 0) aNil) [some (tI xs), none] h).bind _ = _
      rw [c0, decide_eq_true hc]
      refine (op_ok m1 rfl).trans ?_
      show Res.ok (D.bl (decide (0 < minL ((List.range xs.length).map fun j => minL (mid xs j))))) h' = _
      congr 2
      rw [Bool.eq_iff_iff, decide_eq_true_eq, decide_eq_true_eq]
      have := wh_min xs g.pos
      exact ⟨fun z => ⟨hc, this.mp z⟩, fun z => this.mpr z.2⟩
    exact run_rt [some (tI xs), none] b0
  · refine ⟨h0, ?_, kp0⟩
    have b0 : b_own_whole_0 [some (tI xs), none] h = .rt (.bl (decide (Fz.Cl xs ∧ Wh xs))) h0 := by
      unfold b_own_whole_0
      refine ret_ok ?_
      show (eCall s_own_closed (aCons (eVar 0) aNil) [some (tI xs), none] h).bind _ = _
      rw [c0, decide_eq_false hc, decide_eq_false (fun z => hc z.1)]
      rfl
    exact run_rt [some (tI xs), none] b0
theorem is_whole_frieze_ok {xs : List Int} (g : Good xs) (h : Hd) : ∃ h', s_is_whole_frieze [tI xs] h = .ok (.bl (decide (Fz.Cl xs ∧ Wh xs))) h' ∧ Kp [] h h' := by
  obtain ⟨h', e, kp⟩ := own_whole_ok g (h ++ [.lst [], .lst []])
  exact ⟨h', run_rt [some (tI xs)] ((seq_nx (expr_ok ((call_ok (ds := [tI xs]) rfl).trans (g.nq h)))).trans (ret_ok ((call_ok (ds := [tI xs]) rfl).trans e))), Kp.app.trans kp⟩
theorem trace_of_ok {xs : List Int} (g : Good xs) (h : Hd) : ∃ h', s_trace_of [tI xs] h = .ok (.int ((Fz.tb xs).1 + (Fz.tb xs).2.2.2)) h' ∧ Kp [] h h' := by
  have hl := g.lo
  have hh := g.hi
  obtain ⟨g1, e1⟩ := own_entry_ok xs g.sm g.pos 0 (xs.length + 1) (by omega) 0 ((xs.length : Int) + 1) rfl (by omega) (h ++ [.lst [], .lst []])
  obtain ⟨g2, e2⟩ := own_entry_ok xs g.sm g.pos 1 (xs.length - 1) (by omega) 1 (xs.length : Int) rfl (by omega) (h ++ [.lst [], .lst []] ++ g1)
  refine ⟨h ++ [.lst [], .lst []] ++ g1 ++ g2, ?_, (Kp.app.trans Kp.app).trans Kp.app⟩
  have t : s_own_trace [tI xs] (h ++ [.lst [], .lst []]) = .ok (.int ((Fz.tb xs).1 + (Fz.tb xs).2.2.2)) (h ++ [.lst [], .lst []] ++ g1 ++ g2) := by
    have a0 : b_own_trace_0 [some (tI xs), none] (h ++ [.lst [], .lst []]) = .nx [some (tI xs), some (.int (xs.length : Nat))] (h ++ [.lst [], .lst []]) := by
      simp [b_own_trace_0, tI]
    have a1 : b_own_trace_1 [some (tI xs), some (.int (xs.length : Nat))] (h ++ [.lst [], .lst []]) = .rt (.int ((Fz.tb xs).1 + (Fz.tb xs).2.2.2)) (h ++ [.lst [], .lst []] ++ g1 ++ g2) := by
      unfold b_own_trace_1
      refine ret_ok ?_
      refine (op_ok ((call_ok (ds := [tI xs, .int 0, .int ((xs.length : Int) + 1)]) rfl).trans e1) ((call_ok (ds := [tI xs, .int 1, .int (xs.length : Int)]) rfl).trans e2)).trans ?_
      show Res.ok (D.int (Fz.E xs 0 (xs.length + 1) - Fz.E xs 1 (xs.length - 1))) _ = _
      rw [Fz.trace_eq xs (by omega)]
    exact run_rt [some (tI xs), none] ((seq_nx a0).trans a1)
  exact run_rt [some (tI xs)] ((seq_nx (expr_ok ((call_ok (ds := [tI xs]) rfl).trans (g.nq h)))).trans (ret_ok ((call_ok (ds := [tI xs]) rfl).trans t)))
theorem entry_of_ok {xs : List Int} (g : Good xs) (s n : Nat) (hs : s < xs.length) (hn : n ≤ xs.length) (h : Hd) : ∃ h', s_entry_of [tI xs, .int (s : Nat), .int ((s + n : Nat) : Int)] h = .ok (.int (Fz.E xs s n)) h' ∧ Kp [] h h' := by
  have hh := g.hi
  obtain ⟨g1, e1⟩ := own_entry_ok xs g.sm g.pos s n (by omega) (s : Int) ((s + n : Nat) : Int) rfl rfl (h ++ [.lst [], .lst []])
  refine ⟨h ++ [.lst [], .lst []] ++ g1, ?_, Kp.app.trans Kp.app⟩
  have i1 : s_is_whole [.int (s : Nat), .int 0, .int ((xs.length : Int) - 1)] (h ++ [.lst [], .lst []]) = .ok (.bl true) (h ++ [.lst [], .lst []]) := by
    rw [is_whole_int, decide_eq_true (by omega), decide_eq_true (by omega)]
    rfl
  have i2 : s_is_whole [.int ((s + n : Nat) : Int), .int (s : Nat), .int ((s : Int) + xs.length)] (h ++ [.lst [], .lst []]) = .ok (.bl true) (h ++ [.lst [], .lst []]) := by
    rw [is_whole_int, decide_eq_true (by omega), decide_eq_true (by omega)]
    rfl
  have b1 : b_entry_of_1 [some (tI xs), some (.int (s : Nat)), some (.int ((s + n : Nat) : Int))] (h ++ [.lst [], .lst []]) = .nx [some (tI xs), some (.int (s : Nat)), some (.int ((s + n : Nat) : Int))] (h ++ [.lst [], .lst []]) := by
    simp [b_entry_of_1, tI, i1]
  have b2 : b_entry_of_2 [some (tI xs), some (.int (s : Nat)), some (.int ((s + n : Nat) : Int))] (h ++ [.lst [], .lst []]) = .nx [some (tI xs), some (.int (s : Nat)), some (.int ((s + n : Nat) : Int))] (h ++ [.lst [], .lst []]) := by
    generalize ((s + n : Nat) : Int) = q at *
    simp [b_entry_of_2, tI, i2]
  refine run_rt [some (tI xs), some (.int (s : Nat)), some (.int ((s + n : Nat) : Int))] ((seq_nx (expr_ok ((call_ok (ds := [tI xs]) rfl).trans (g.nq h)))).trans ((seq_nx b1).trans ((seq_nx b2).trans (ret_ok ((call_ok (ds := [tI xs, .int (s : Nat), .int ((s + n : Nat) : Int)]) rfl).trans e1)))))
end Lw

set_option Elab.async false
set_option linter.all false
set_option maxRecDepth 100000
set_option maxHeartbeats 1000000
namespace Lw
open PySem PySem.Spec PyProof.Rows L2 Mi
/-! ### the table -/
def tbD (t : Fz.Tb) : D := .tup [.int t.1, .int t.2.1, .int t.2.2.1, .int t.2.2.2]
theorem table_loop (src : Src) (row : List Int) (h : Hd) (c : D) (hs : Sm row) (hl : row.length < 1000) (hi : ∀ i, i < row.length → src h i = .item (.int (row.getD i 0))) (he : src h row.length = .stop) :
    ∃ v, forL src (gSet 5) (sAsg (eTup (aCons (eOp gAdd (eOp gMul (eVar 1) (eVar 5)) (eVar 2)) (aCons (eOp Mi.gSub (eC (.int 0)) (eVar 1)) (aCons (eOp gAdd (eOp gMul (eVar 3) (eVar 5)) (eVar 4)) (aCons (eOp Mi.gSub (eC (.int 0)) (eVar 3)) aNil))))) (gUnp 4 (gsCons (gSet 1) (gsCons (gSet 2) (gsCons (gSet 3) (gsCons (gSet 4) gsNil)))))) most 0
      [some c, some (.int 1), some (.int 0), some (.int 0), some (.int 1), none] h = .nx [some c, some (.int (Fz.tb row).1), some (.int (Fz.tb row).2.1), some (.int (Fz.tb row).2.2.1), some (.int (Fz.tb row).2.2.2), v] h := by
  have key := for_inv (src := src) (tg := gSet 5) (body := sAsg (eTup (aCons (eOp gAdd (eOp gMul (eVar 1) (eVar 5)) (eVar 2)) (aCons (eOp Mi.gSub (eC (.int 0)) (eVar 1)) (aCons (eOp gAdd (eOp gMul (eVar 3) (eVar 5)) (eVar 4)) (aCons (eOp Mi.gSub (eC (.int 0)) (eVar 3)) aNil))))) (gUnp 4 (gsCons (gSet 1) (gsCons (gSet 2) (gsCons (gSet 3) (gsCons (gSet 4) gsNil))))))
    (env := [some c, some (.int 1), some (.int 0), some (.int 0), some (.int 1), none]) (h := h) row.length (fun i => .int (row.getD i 0)) (fun i env h' => h' = h ∧ ∃ v, env = [some c, some (.int (Fz.tb (row.take i)).1), some (.int (Fz.tb (row.take i)).2.1), some (.int (Fz.tb (row.take i)).2.2.1), some (.int (Fz.tb (row.take i)).2.2.2), v])
    ⟨rfl, none, rfl⟩ ?_ ?_ (by rw [most_eq]; omega)
  · obtain ⟨env', h', e, rfl, v, rfl⟩ := key
    rw [List.take_length] at e
    exact ⟨v, e⟩
  · rintro i env h' hi' ⟨rfl, v, rfl⟩
    have hx := sm_at hs hi'
    have ht : Fz.tb (row.take (i + 1)) = Fz.stp (Fz.tb (row.take i)) (row.getD i 0) := by
      rw [List.take_add_one, List.getElem?_eq_getElem hi', List.getD_eq_getElem?_getD, List.getElem?_eq_getElem hi']
      exact Fz.tb_app _ _
    refine ⟨hi i hi', ?_⟩
    rw [ht]
    generalize row.getD i 0 = p at *
    generalize Fz.tb (row.take i) = t
    obtain ⟨a, b, c', d⟩ := t
    refine ⟨_, _, ?_, rfl, some (.int p), rfl⟩
    simp [stepS, gMul, mul_sm hx, Fz.stp]
  · rintro env h' ⟨rfl, v, rfl⟩
    exact he
theorem law_table_ok (c : D) (src : Src) (row : List Int) (h : Hd) (hs : Sm row) (hl : row.length < 1000) (hw : iOf (eVar 0) [some c, some (.int 1), some (.int 0), some (.int 0), some (.int 1), none] h = .ok src h) (hi : ∀ i, i < row.length → src h i = .item (.int (row.getD i 0))) (he : src h row.length = .stop) :
    s__law_table [c] h = .ok (tbD (Fz.tb row)) h := by
  obtain ⟨v, e⟩ := table_loop src row h c hs hl hi he
  have b0 : b__law_table_0 [some c, none, none, none, none, none] h = .nx [some c, some (.int 1), some (.int 0), some (.int 0), some (.int 1), none] h := by
    simp [b__law_table_0]
  have b1 : b__law_table_1 [some c, some (.int 1), some (.int 0), some (.int 0), some (.int 1), none] h = .nx [some c, some (.int (Fz.tb row).1), some (.int (Fz.tb row).2.1), some (.int (Fz.tb row).2.2.1), some (.int (Fz.tb row).2.2.2), v] h := by
    unfold b__law_table_1
    rw [sFor_ok hw]
    exact e
  have b2 : b__law_table_2 [some c, some (.int (Fz.tb row).1), some (.int (Fz.tb row).2.1), some (.int (Fz.tb row).2.2.1), some (.int (Fz.tb row).2.2.2), v] h = .rt (tbD (Fz.tb row)) h := by
    simp [b__law_table_2, tbD]
  exact run_rt [some c, none, none, none, none, none] ((seq_nx b0).trans ((seq_nx b1).trans b2))
theorem law_table_tup (row : List Int) (h : Hd) (hs : Sm row) (hl : row.length < 1000) : s__law_table [tI row] h = .ok (tbD (Fz.tb row)) h :=
  law_table_ok (tI row) (fixS (row.map .int)) row h hs hl rfl (fun i hi => by rw [fix_item (by simpa using hi), getD_int hi]) (by have := fix_stop (xs := row.map D.int) (h := h); rwa [List.length_map] at this)
theorem law_table_ref (r : Nat) (row : List Int) (h : Hd) (hs : Sm row) (hl : row.length < 1000) (hr : h[r]? = some (.lst (row.map .int))) : s__law_table [.ref r] h = .ok (tbD (Fz.tb row)) h :=
  law_table_ok (.ref r) (liveS r) row h hs hl (by simp [hr]) (fun i hi => by rw [live_item (.inl hr) (by simpa using hi), getD_int hi]) (by have := live_stop (h := h) (.inl hr); rwa [List.length_map] at this)
theorem sg_sm {xs : List Int} (hs : Sm xs) (h0 : 0 < xs.length) (s m : Nat) : Sm (Fz.sg xs s m) := by
  intro x hx
  unfold Fz.sg at hx
  obtain ⟨j, _, rfl⟩ := List.mem_map.mp hx
  exact sm_at hs (Nat.mod_lt _ h0)
theorem at_mod {xs : List Int} (h0 : 0 < xs.length) (i : Nat) : atI (xs.map D.int) (Int.fmod (i : Int) xs.length) = some (.int (Fz.at_ xs i)) := by
  have hlt : i % xs.length < xs.length := Nat.mod_lt _ h0
  rw [fmod_nat, atI_nat (by simpa using hlt), List.getElem?_map]
  unfold Fz.at_
  rw [List.getD_eq_getElem?_getD, List.getElem?_eq_getElem hlt]
  rfl
theorem comp_row {xs : List Int} (s m : Nat) (hm : m < 1000) (one : Int) (tg : Fg) (el : Fe) (env : En) (h : Hd) (hel : ∀ (j : Nat) (h1 : Hd), j < m → turnC tg tYesD el env (.int (one + 1 + (j : Nat) * 1)) h1 = .ok [.int (Fz.at_ xs (s + 1 + j))] h1) :
    lcL (rngS (one + 1) m 1) tg tYesD el env h.length most 0 (h ++ [.lst []]) = .ok (.ref h.length) (h ++ [.lst ((Fz.sg xs (s + 1) m).map .int)]) := by
  have key := lc_inv (src := rngS (one + 1) m 1) (tg := tg) (tst := tYesD) (el := el) (env := env) (h := h) m (fun i => .int (one + 1 + (i : Nat) * 1))
    (fun i h1 acc => h1 = h ++ [.lst acc] ∧ acc = (Fz.sg xs (s + 1) i).map .int) ⟨rfl, rfl⟩ ?_ ?_ (by omega)
  · obtain ⟨h', acc, e, e3, _, rfl, rfl⟩ := key
    exact e
  · rintro i h1 acc hi ⟨rfl, rfl⟩ ha
    refine ⟨rng_item hi, _, _, hel i _ hi, ha, ?_, ?_⟩
    · rw [app_set0]; rfl
    · rw [Fz.sg_succ, List.map_append]; rfl
  · rintro h1 acc ⟨rfl, rfl⟩ _
    exact rng_stop
theorem law_between_ok {xs : List Int} (g : Good xs) (s n : Nat) (hs : s < 100) (hn : n < 100) (one other : Int) (e1 : one = (s : Nat)) (e2 : other = ((s + n : Nat) : Int)) (h : Hd) : ∃ g', s__law_between [tI xs, .int one, .int other] h = .ok (.int (Fz.E xs s n)) (h ++ g') := by
  cases n with
  | zero =>
    refine ⟨[], ?_⟩
    have e3 : one = other := by omega
    rw [List.append_nil, e3]
    have b0 : b__law_between_0 [some (tI xs), some (.int other), some (.int other), none] h = .rt (.int 0) h := by
      simp [b__law_between_0]
    have : b__law_between [some (tI xs), some (.int other), some (.int other), none] h = .rt (.int 0) h := by
      unfold b__law_between
      show (match b__law_between_0 [some (tI xs), some (.int other), some (.int other), none] h with
        | .nx env1 h1 => b__law_between_1 env1 h1
        | r => r) = _
      rw [b0]
    exact run_rt [some (tI xs), some (.int other), some (.int other), none] this
  | succ m =>
    have h0 := g.pos
    have hne : xs ≠ [] := fun z => by rw [z] at h0; cases h0
    have hno : ¬ one = other := by omega
    refine ⟨[.lst ((Fz.sg xs (s + 1) m).map .int)], ?_⟩
    have b0 : b__law_between_0 [some (tI xs), some (.int one), some (.int other), none] h = .nx [some (tI xs), some (.int one), some (.int other), none] h := by
      simp [b__law_between_0, hno]
    have key := comp_row (xs := xs) s m (by omega) one (gSet 3) (eOp gIx (eVar 0) (eOp gMod (eVar 3) (eCall gLen (aCons (eVar 0) aNil)))) [some (tI xs), some (.int one), some (.int other), none] h (fun j h1 hj => by
      have e4 : (one + 1 + (j : Nat) * 1) = ((s + 1 + j : Nat) : Int) := by omega
      rw [e4]
      have := at_mod h0 (s + 1 + j)
      generalize ((s + 1 + j : Nat) : Int) = q at *
      simp [turnC, gMod, hne, tI, this])
    have r1 : rngOk (one + 1) = true := rng_small (by omega) (by omega)
    have r2 : rngOk other = true := rng_small (by omega) (by omega)
    have e5 : (other - (one + 1)).toNat = m := by omega
    have c1 : eLc (iRng2D (aCons (eOp gAdd (eVar 1) (eC (.int 1))) (aCons (eVar 2) aNil))) (gSet 3) tYesD (eOp gIx (eVar 0) (eOp gMod (eVar 3) (eCall gLen (aCons (eVar 0) aNil)))) [3] [some (tI xs), some (.int one), some (.int other), none] h = .ok (.ref h.length) (h ++ [.lst ((Fz.sg xs (s + 1) m).map .int)]) := by
      rw [eLc_ok (rng2_ok (i := one + 1) (j := other) (h1 := h) rfl r1 r2), e5]
      exact key
    have b1 : b__law_between_1 [some (tI xs), some (.int one), some (.int other), none] h = .rt (.int (Fz.E xs s (m + 1))) (h ++ [.lst ((Fz.sg xs (s + 1) m).map .int)]) := by
      unfold b__law_between_1
      refine ret_ok ?_
      refine (op_ok ((call_ok (cons_ok c1 rfl)).trans (law_table_ref h.length (Fz.sg xs (s + 1) m) _ (sg_sm g.sm h0 _ _) (by rw [Fz.sg_len]; omega) (by rw [app_at0]; rfl))) rfl).trans ?_
      rw [Fz.E_K]
      rfl
    exact run_rt [some (tI xs), some (.int one), some (.int other), none] ((seq_nx b0).trans b1)
/-! ### the state's digits -/
abbrev kL : Key := .inr "left"
abbrev kC : Key := .inr "cell"
abbrev kT : Key := .inr "turns"
def stD (l c t : Int) : Ob := .dic [(kL, .int l), (kC, .int c), (kT, .int t)]
theorem mixed_ok (cell k : Int) (h0 : 0 ≤ k) (h1 : k ≤ 100000) (h : Hd) : ∃ m g, s__law_mixed [.int cell, .int k] h = .ok (.int m) (h ++ g) ∧ 0 ≤ m ∧ m < 2147483647 := by
  have hr : Int.fmod k 4 = 0 ∨ Int.fmod k 4 = 1 ∨ Int.fmod k 4 = 2 ∨ Int.fmod k 4 = 3 := by
    rw [Int.fmod_eq_emod_of_nonneg _ (by decide)]
    omega
  obtain ⟨M, hM, hM0, hM1⟩ : ∃ M : Int, atI [D.int 1000000007, .int 998244353, .int 2147483629, .int 1000000009] (Int.fmod k 4) = some (.int M) ∧ 0 < M ∧ M < 2147483630 := by
    rcases hr with e | e | e | e <;> rw [e]
    · exact ⟨1000000007, rfl, by decide, by decide⟩
    · exact ⟨998244353, rfl, by decide, by decide⟩
    · exact ⟨2147483629, rfl, by decide, by decide⟩
    · exact ⟨1000000009, rfl, by decide, by decide⟩
  have hMn : M ≠ 0 := by omega
  have hc0 : 0 ≤ Int.fmod cell M := Int.fmod_nonneg_of_pos _ hM0
  have hc1 : Int.fmod cell M < M := Int.fmod_lt_of_pos _ hM0
  have m1 : mulOk 7919 k = true := by
    unfold mulOk
    rw [Bool.or_eq_true, Bool.or_eq_true, decide_eq_true_eq]
    left; left; decide
  generalize hv : Int.fmod cell M + 7919 * k + 13 = v at *
  have hv0 : 0 ≤ v := by omega
  have hv1 : v < 4294967296 := by omega
  have m2 : mulOk v v = true := by
    unfold mulOk
    rw [Bool.or_eq_true, Bool.or_eq_true, decide_eq_true_eq]
    left; left; omega
  have m3 : mulOk (Int.fmod (v * v) 2147483647) 48271 = true := by
    unfold mulOk
    rw [Bool.or_eq_true, Bool.or_eq_true, decide_eq_true_eq, decide_eq_true_eq]
    left; right; decide
  refine ⟨Int.fmod (Int.fmod (v * v) 2147483647 * 48271) 2147483647, [.lst [.int 1000000007, .int 998244353, .int 2147483629, .int 1000000009]], ?_, Int.fmod_nonneg_of_pos _ (by decide), Int.fmod_lt_of_pos _ (by decide)⟩
  have b0 : b__law_mixed_0 [some (.int cell), some (.int k), none] h = .nx [some (.int cell), some (.int k), some (.int v)] (h ++ [.lst [.int 1000000007, .int 998244353, .int 2147483629, .int 1000000009]]) := by
    simp [b__law_mixed_0, gMod, gMul, hM, hMn, m1, hv]
  have b1 : b__law_mixed_1 [some (.int cell), some (.int k), some (.int v)] (h ++ [.lst [.int 1000000007, .int 998244353, .int 2147483629, .int 1000000009]]) = .rt (.int (Int.fmod (Int.fmod (v * v) 2147483647 * 48271) 2147483647)) (h ++ [.lst [.int 1000000007, .int 998244353, .int 2147483629, .int 1000000009]]) := by
    generalize (h ++ [Ob.lst [D.int 1000000007, .int 998244353, .int 2147483629, .int 1000000009]]) = h'
    simp [b__law_mixed_1, gMod, gMul, m2, m3]
  exact run_rt [some (.int cell), some (.int k), none] ((seq_nx b0).trans b1)
/-- the state at s: what is left is not negative, at most n turns were made -/
def St (s : Nat) (n : Int) (h : Hd) : Prop := ∃ l c t, h[s]? = some (stD l c t) ∧ 0 ≤ l ∧ 0 ≤ t ∧ t ≤ n
theorem St.keep {s : Nat} {n : Int} {h h' : Hd} (a : St s n h) (k : Kp [] h h') : St s n h' := by
  obtain ⟨l, c, t, e, r⟩ := a
  exact ⟨l, c, t, k.at_ _ _ (by simp) e, r⟩
theorem St.lt {s : Nat} {n : Int} {h : Hd} (a : St s n h) : s < h.length := by
  obtain ⟨l, c, t, e, r⟩ := a
  exact (List.getElem?_eq_some_iff.mp e).1
theorem put_T (l c t x : D) : putD [(kL, l), (kC, c), (kT, t)] kT x = [(kL, l), (kC, c), (kT, x)] := rfl
theorem put_L (l c t x : D) : putD [(kL, l), (kC, c), (kT, t)] kL x = [(kL, x), (kC, c), (kT, t)] := rfl
theorem val_L (l c t : D) : valD [(kL, l), (kC, c), (kT, t)] kL = some l := rfl
theorem val_C (l c t : D) : valD [(kL, l), (kC, c), (kT, t)] kC = some c := rfl
theorem val_T (l c t : D) : valD [(kL, l), (kC, c), (kT, t)] kT = some t := rfl
theorem ix_L {h : Hd} {s : Nat} {l c t : Int} (e : h[s]? = some (stD l c t)) : gIx (.ref s) (.str "left") h = .ok (.int l) h := by
  unfold gIx; dsimp only; rw [e]; rfl
theorem ix_C {h : Hd} {s : Nat} {l c t : Int} (e : h[s]? = some (stD l c t)) : gIx (.ref s) (.str "cell") h = .ok (.int c) h := by
  unfold gIx; dsimp only; rw [e]; rfl
theorem ix_T {h : Hd} {s : Nat} {l c t : Int} (e : h[s]? = some (stD l c t)) : gIx (.ref s) (.str "turns") h = .ok (.int t) h := by
  unfold gIx; dsimp only; rw [e]; rfl
theorem set_L {h : Hd} {s : Nat} {l c t x : Int} (e : h[s]? = some (stD l c t)) : setAt (.ref s) (.str "left") (.int x) h = some (h.set s (stD x c t)) := by
  unfold setAt; dsimp only; rw [e]; rfl
theorem set_T {h : Hd} {s : Nat} {l c t x : Int} (e : h[s]? = some (stD l c t)) : setAt (.ref s) (.str "turns") (.int x) h = some (h.set s (stD l c x)) := by
  unfold setAt; dsimp only; rw [e]; rfl
theorem store_ok {fe fo fi : Fe} {env : En} {h h1 h2 h3 h4 : Hd} {v o i : D} (e1 : fe env h = .ok v h1) (e2 : fo env h1 = .ok o h2) (e3 : fi env h2 = .ok i h3) (e4 : setAt o i v h3 = some h4) : sStore fe fo fi env h = .nx env h4 := by
  unfold sStore
  show (match fe env h with
    | .ok v h1 => sOf fo (fun o => sOf fi fun i env h => match setAt o i v h with
      | some h1 => .nx env h1
      | none => .no) env h1
    | .ex e h1 => SRes.ex e env h1
    | .no => .no) = _
  rw [e1]
  show (match fo env h1 with
    | .ok o h1 => sOf fi (fun i env h => match setAt o i v h with
      | some h1 => .nx env h1
      | none => .no) env h1
    | .ex e h1 => SRes.ex e env h1
    | .no => .no) = _
  rw [e2]
  show (match fi env h2 with
    | .ok i h1 => (match setAt o i v h1 with
      | some h1 => SRes.nx env h1
      | none => .no)
    | .ex e h1 => SRes.ex e env h1
    | .no => .no) = _
  rw [e3]
  dsimp only
  rw [e4]
theorem digit_ok (s : Nat) (n below : Int) (hb : 1 ≤ below) (hb2 : below < 1000000) (hn : n ≤ 90000) (h : Hd) (st : St s n h) : ∃ d h', s__law_digit [.ref s, .int below] h = .ok (.int d) h' ∧ 0 ≤ d ∧ d < below ∧ St s (n + 4) h' ∧ Kp [s] h h' := by
  obtain ⟨l, c, t, e, hl, ht, htn⟩ := st
  -- what stands behind the filling up
  have fill : ∃ v h1 l1 t1, b__law_digit_0 [some (.ref s), some (.int below), none, none] h = .nx [some (.ref s), some (.int below), v, none] h1 ∧ h1[s]? = some (stD l1 c t1) ∧ 0 ≤ l1 ∧ 0 ≤ t1 ∧ t1 ≤ n + 4 ∧ Kp [s] h h1 := by
    have tst : tOf (eOp gEq (eOp gIx (eVar 0) (eC (.str "left"))) (eC (.int 0))) [some (.ref s), some (.int below), none, none] h = .ok (decide (l = 0)) h := by
      refine tOf_ok ((op_ok ((op_ok (x := .ref s) (y := .str "left") rfl rfl).trans (ix_L e)) rfl).trans ?_)
      rfl
    by_cases h0 : l = 0
    · have key := for_inv (src := rngS 0 4 1) (tg := gSet 2) (body := sSeq (sStore (eOp gAdd (eOp gIx (eVar 0) (eC (.str "turns"))) (eC (.int 1))) (eVar 0) (eC (.str "turns")))
        (sStore (eOp gAdd (eOp gMul (eOp gIx (eVar 0) (eC (.str "left"))) (eC (.int 2147483647))) (eCall s__law_mixed (aCons (eOp gIx (eVar 0) (eC (.str "cell"))) (aCons (eOp gIx (eVar 0) (eC (.str "turns"))) aNil)))) (eVar 0) (eC (.str "left"))))
        (env := [some (.ref s), some (.int below), none, none]) (h := h) 4 (fun i => .int (0 + (i : Nat) * 1)) (fun i env h1 => (∃ v, env = [some (.ref s), some (.int below), v, none]) ∧ (∃ l1 t1, h1[s]? = some (stD l1 c t1) ∧ 0 ≤ l1 ∧ 0 ≤ t1 ∧ t1 ≤ n + (i : Nat)) ∧ Kp [s] h h1)
        ⟨⟨none, rfl⟩, ⟨l, t, e, hl, ht, by omega⟩, Kp.refl⟩ ?_ ?_ (by rw [most_eq]; decide)
      · obtain ⟨env', h1, e1, ⟨v, rfl⟩, ⟨l1, t1, q1, q2, q3, q4⟩, kp⟩ := key
        refine ⟨v, h1, l1, t1, ?_, q1, q2, q3, q4, kp⟩
        unfold b__law_digit_0
        rw [if_ok tst, decide_eq_true h0, if_pos rfl, sFor_ok (rng1_ok (j := 4) (h1 := h) rfl (rng_small (by decide) (by decide)))]
        exact e1
      · rintro i env h1 hi ⟨⟨v, rfl⟩, ⟨l1, t1, q1, q2, q3, q4⟩, kp⟩
        have hs1 : s < h1.length := (List.getElem?_eq_some_iff.mp q1).1
        have q5 : (h1.set s (stD l1 c (t1 + 1)))[s]? = some (stD l1 c (t1 + 1)) := List.getElem?_set_self hs1
        obtain ⟨m, g, em, m0, m1⟩ := mixed_ok c (t1 + 1) (by omega) (by omega) (h1.set s (stD l1 c (t1 + 1)))
        have q6 : (h1.set s (stD l1 c (t1 + 1)) ++ g)[s]? = some (stD l1 c (t1 + 1)) := app_old q5
        have hs2 : s < (h1.set s (stD l1 c (t1 + 1)) ++ g).length := (List.getElem?_eq_some_iff.mp q6).1
        have mo : mulOk l1 2147483647 = true := by
          unfold mulOk
          rw [Bool.or_eq_true, Bool.or_eq_true, decide_eq_true_eq, decide_eq_true_eq]
          left; right; decide
        refine ⟨rng_item hi, [some (.ref s), some (.int below), some (.int (0 + (i : Nat) * 1)), none], (h1.set s (stD l1 c (t1 + 1)) ++ g).set s (stD (l1 * 2147483647 + m) c (t1 + 1)), ?_, ⟨_, rfl⟩, ⟨l1 * 2147483647 + m, t1 + 1, List.getElem?_set_self hs2, by omega, by omega, by omega⟩, ?_⟩
        · have w1 : sStore (eOp gAdd (eOp gIx (eVar 0) (eC (.str "turns"))) (eC (.int 1))) (eVar 0) (eC (.str "turns")) [some (.ref s), some (.int below), some (.int (0 + (i : Nat) * 1)), none] h1 = .nx [some (.ref s), some (.int below), some (.int (0 + (i : Nat) * 1)), none] (h1.set s (stD l1 c (t1 + 1))) :=
            Lw.store_ok ((op_ok ((op_ok (x := .ref s) (y := .str "turns") rfl rfl).trans (ix_T q1)) rfl).trans rfl) rfl rfl (set_T q1)
          have w2 : sStore (eOp gAdd (eOp gMul (eOp gIx (eVar 0) (eC (.str "left"))) (eC (.int 2147483647))) (eCall s__law_mixed (aCons (eOp gIx (eVar 0) (eC (.str "cell"))) (aCons (eOp gIx (eVar 0) (eC (.str "turns"))) aNil)))) (eVar 0) (eC (.str "left")) [some (.ref s), some (.int below), some (.int (0 + (i : Nat) * 1)), none] (h1.set s (stD l1 c (t1 + 1))) = .nx [some (.ref s), some (.int below), some (.int (0 + (i : Nat) * 1)), none] ((h1.set s (stD l1 c (t1 + 1)) ++ g).set s (stD (l1 * 2147483647 + m) c (t1 + 1))) := by
            refine Lw.store_ok (h1 := h1.set s (stD l1 c (t1 + 1)) ++ g) (v := .int (l1 * 2147483647 + m)) ?_ rfl rfl (set_L q6)
            have p1 : eOp gMul (eOp gIx (eVar 0) (eC (.str "left"))) (eC (.int 2147483647)) [some (.ref s), some (.int below), some (.int (0 + (i : Nat) * 1)), none] (h1.set s (stD l1 c (t1 + 1))) = .ok (.int (l1 * 2147483647)) (h1.set s (stD l1 c (t1 + 1))) := by
              refine (op_ok ((op_ok (x := .ref s) (y := .str "left") rfl rfl).trans (ix_L q5)) rfl).trans ?_
              unfold gMul
              dsimp only
              rw [if_pos mo]
            have p2 : eCall s__law_mixed (aCons (eOp gIx (eVar 0) (eC (.str "cell"))) (aCons (eOp gIx (eVar 0) (eC (.str "turns"))) aNil)) [some (.ref s), some (.int below), some (.int (0 + (i : Nat) * 1)), none] (h1.set s (stD l1 c (t1 + 1))) = .ok (.int m) (h1.set s (stD l1 c (t1 + 1)) ++ g) :=
              (call_ok (cons_ok ((op_ok (x := .ref s) (y := .str "cell") rfl rfl).trans (ix_C q5)) (cons_ok ((op_ok (x := .ref s) (y := .str "turns") rfl rfl).trans (ix_T q5)) rfl))).trans em
            exact (op_ok p1 p2).trans rfl
          show (match sSeq _ _ [some (.ref s), some (.int below), some (.int (0 + (i : Nat) * 1)), none] h1 with
            | .ct env2 h2 => SRes.nx env2 h2
            | r => r) = _
          rw [seq_nx w1, w2]
        · exact ((kp.trans (Kp.set (by simp))).trans Kp.app).trans (Kp.set (by simp))
      · rintro env h1 _
        exact rng_stop
    · refine ⟨none, h, l, t, ?_, e, hl, ht, by omega, Kp.refl⟩
      unfold b__law_digit_0
      rw [if_ok tst, decide_eq_false h0, if_neg (by decide)]
      rfl
  obtain ⟨v, h1, l1, t1, f1, q1, q2, q3, q4, kp⟩ := fill
  have hs1 : s < h1.length := (List.getElem?_eq_some_iff.mp q1).1
  have hbn : below ≠ 0 := by omega
  have d0 : 0 ≤ Int.fmod l1 below := Int.fmod_nonneg_of_pos _ (by omega)
  have d1 : Int.fmod l1 below < below := Int.fmod_lt_of_pos _ (by omega)
  have d2 : 0 ≤ Int.fdiv l1 below := Int.fdiv_nonneg q2 (by omega)
  refine ⟨Int.fmod l1 below, h1.set s (stD (Int.fdiv l1 below) c t1), ?_, d0, d1, ⟨_, c, t1, List.getElem?_set_self hs1, d2, q3, q4⟩, kp.trans (Kp.set (by simp))⟩
  have b1 : b__law_digit_1 [some (.ref s), some (.int below), v, none] h1 = .nx [some (.ref s), some (.int below), v, some (.int (Int.fmod l1 below))] h1 := by
    unfold b__law_digit_1
    refine asg_ok (i := 3) ((op_ok ((op_ok (x := .ref s) (y := .str "left") rfl rfl).trans (ix_L q1)) rfl).trans ?_) (by simp)
    unfold gMod
    dsimp only
    rw [if_pos (decide_eq_true hbn)]
  have b2 : b__law_digit_2 [some (.ref s), some (.int below), v, some (.int (Int.fmod l1 below))] h1 = .nx [some (.ref s), some (.int below), v, some (.int (Int.fmod l1 below))] (h1.set s (stD (Int.fdiv l1 below) c t1)) := by
    unfold b__law_digit_2
    refine Lw.store_ok (h1 := h1) (v := .int (Int.fdiv l1 below)) ((op_ok ((op_ok (x := .ref s) (y := .str "left") rfl rfl).trans (ix_L q1)) rfl).trans ?_) rfl rfl (set_L q1)
    unfold gFdv
    dsimp only
    have hb3 : below.natAbs < 1073741824 := by omega
    rw [if_pos (by rw [decide_eq_true hbn, decide_eq_true hb3]; rfl)]
  exact run_rt [some (.ref s), some (.int below), none, none] ((seq_nx f1).trans ((seq_nx b1).trans ((seq_nx b2).trans (ret_ok rfl))))
end Lw

set_option Elab.async false
set_option linter.all false
set_option maxRecDepth 100000
set_option maxHeartbeats 1000000
namespace Lw
open PySem PySem.Spec PyProof.Rows L2 Mi
theorem pairs_cons {k v : Fe} {r : List (Fe × Fe)} {env : En} {h h1 h2 h3 : Hd} {x y : D} {ky : Key} {ps : List (Key × D)} (e1 : k env h = .ok x h1) (e2 : v env h1 = .ok y h2) (e3 : pairsD r env h2 = .ok ps h3) (e4 : keyD x = some ky) : pairsD ((k, v) :: r) env h = .ok ((ky, y) :: ps) h3 := by
  unfold pairsD
  rw [e1]
  show (v env h1).bind (fun y h2 => (pairsD r env h2).bind fun ps h3 => match keyD x with
    | some ky => Res.ok ((ky, y) :: ps) h3
    | none => .no) = _
  rw [e2]
  show (pairsD r env h2).bind (fun ps h3 => match keyD x with
    | some ky => Res.ok ((ky, y) :: ps) h3
    | none => .no) = _
  rw [e3]
  show (match keyD x with
    | some ky => Res.ok ((ky, y) :: ps) h3
    | none => .no) = _
  rw [e4]
theorem draw_ok (cell : Int) (k : Nat) (hk : k ≤ 3) (h : Hd) : ∃ h', s__law_draw [.int cell, .int (k : Nat)] h = .ok (.ref h.length) h' ∧ St h.length 3000 h' ∧ Kp [] h h' := by
  have m1 : mulOk 1000 (k : Int) = true := by
    unfold mulOk
    rw [Bool.or_eq_true, Bool.or_eq_true, decide_eq_true_eq]
    left; left; decide
  have p1 : eOp gPow (eC (.int 10)) (eC (.int 18)) [some (.int cell), some (.int (k : Nat))] (h ++ [.dic []]) = .ok (.int 1000000000000000000) (h ++ [.dic []]) := by
    refine (op_ok rfl rfl).trans ?_
    rfl
  have l1 : ∃ l, 0 ≤ l ∧ eIf (tOf (eOp gGe (eVar 0) (eOp gPow (eC (.int 10)) (eC (.int 18))))) (eVar 0) (eC (.int 0)) [some (.int cell), some (.int (k : Nat))] (h ++ [.dic []]) = .ok (.int l) (h ++ [.dic []]) := by
    have t : tOf (eOp gGe (eVar 0) (eOp gPow (eC (.int 10)) (eC (.int 18)))) [some (.int cell), some (.int (k : Nat))] (h ++ [.dic []]) = .ok (decide (1000000000000000000 ≤ cell)) (h ++ [.dic []]) := tOf_ok ((op_ok rfl p1).trans rfl)
    by_cases hc : (1000000000000000000 : Int) ≤ cell
    · refine ⟨cell, by omega, ?_⟩
      show (tOf _ _ (h ++ [.dic []])).bind _ = _
      rw [t, decide_eq_true hc]
      rfl
    · refine ⟨0, by decide, ?_⟩
      show (tOf _ _ (h ++ [.dic []])).bind _ = _
      rw [t, decide_eq_false hc]
      rfl
  obtain ⟨l, hl, l2⟩ := l1
  have t2 : eOp gMul (eC (.int 1000)) (eVar 1) [some (.int cell), some (.int (k : Nat))] (h ++ [.dic []]) = .ok (.int (1000 * (k : Int))) (h ++ [.dic []]) := by
    refine (op_ok rfl rfl).trans ?_
    unfold gMul
    dsimp only
    rw [if_pos m1]
  refine ⟨h ++ [stD l cell (1000 * (k : Int))], ?_, ⟨l, cell, 1000 * (k : Int), by rw [app_at0]; rfl, hl, by omega, by omega⟩, Kp.app⟩
  have b0 : b__law_draw_0 [some (.int cell), some (.int (k : Nat))] h = .rt (.ref h.length) (h ++ [stD l cell (1000 * (k : Int))]) := by
    unfold b__law_draw_0
    refine ret_ok ?_
    unfold eDict
    have pr : pairsD [(eC (.str "left"), eIf (tOf (eOp gGe (eVar 0) (eOp gPow (eC (.int 10)) (eC (.int 18))))) (eVar 0) (eC (.int 0))), (eC (.str "cell"), eVar 0), (eC (.str "turns"), eOp gMul (eC (.int 1000)) (eVar 1))] [some (.int cell), some (.int (k : Nat))] (h ++ [.dic []]) =
        .ok [(kL, .int l), (kC, .int cell), (kT, .int (1000 * (k : Int)))] (h ++ [.dic []]) := by
      exact pairs_cons rfl l2 (pairs_cons rfl rfl (pairs_cons rfl t2 rfl rfl) rfl) rfl
    rw [pr]
    show (if (emptyDic ((h ++ [Ob.dic []])[h.length]?) && decide (3 ≤ 15)) = true then Res.ok (D.ref h.length) ((h ++ [Ob.dic []]).set h.length (.dic (mergeD [] [(kL, .int l), (kC, .int cell), (kT, .int (1000 * (k : Int)))]))) else .no) = _
    rw [app_at0, app_set0]
    rfl
  exact run_rt [some (.int cell), some (.int (k : Nat))] b0
/-- lists of ints in the heap -/
def LsI (r : Nat) (ys : List Int) (h : Hd) : Prop := h[r]? = some (.lst (ys.map .int))
theorem map_get {ys : List Int} {k : Nat} (hk : k < ys.length) : (ys.map D.int)[k]? = some (.int (ys.getD k 0)) := by
  rw [List.getElem?_map, List.getElem?_eq_getElem hk, List.getD_eq_getElem?_getD, List.getElem?_eq_getElem hk]
  rfl
theorem ix_ls {r : Nat} {ys : List Int} {h : Hd} {k : Nat} (e : h[r]? = some (.lst (ys.map .int))) (hk : k < ys.length) : gIx (.ref r) (.int (k : Nat)) h = .ok (.int (ys.getD k 0)) h := by
  unfold gIx
  dsimp only
  rw [e]
  dsimp only [ixSeq]
  rw [atI_nat (by simpa using hk), map_get hk]
theorem ixN_nat {n k : Nat} (hk : k < n) : ixN n (k : Int) = some k := by
  unfold ixN
  rw [if_pos (by omega), if_pos (by omega)]
  rfl
theorem set_ls {r : Nat} {ys : List Int} {h : Hd} {k : Nat} {x : Int} (e : h[r]? = some (.lst (ys.map .int))) (hk : k < ys.length) : setAt (.ref r) (.int (k : Nat)) (.int x) h = some (h.set r (.lst ((ys.set k x).map .int))) := by
  unfold setAt
  dsimp only
  rw [e]
  dsimp only
  rw [List.length_map, ixN_nat hk]
  dsimp only
  rw [List.map_set]
theorem inc_bd {ys : List Int} {k : Nat} {lo hi : Int} (hk : k < ys.length) (hb : ∀ y ∈ ys, lo ≤ y ∧ y ≤ hi) : ∀ y ∈ ys.set k (ys.getD k 0 + 1), lo ≤ y ∧ y ≤ hi + 1 := by
  intro y hy
  have hg : ys.getD k 0 ∈ ys := by
    rw [List.getD_eq_getElem?_getD, List.getElem?_eq_getElem hk]
    exact List.getElem_mem hk
  rcases List.mem_or_eq_of_mem_set hy with h | h
  · have := hb y h; omega
  · have := hb _ hg; omega
theorem cut_lo (l : List Int) (A : Nat) (hA : A < l.length) : Mi.cutD (l.map D.int) none (some ((A : Int) + 1)) = (l.take (A + 1)).map D.int := by
  unfold Mi.cutD HT.sIx
  dsimp only
  rw [if_neg (by omega), List.length_map, show ((A : Int) + 1).toNat = A + 1 by omega, Nat.min_eq_left (by omega), List.drop_zero, Nat.sub_zero, List.map_take]
theorem cut_hi (l : List Int) (A : Nat) (hA : A < l.length) : Mi.cutD (l.map D.int) (some ((A : Int) + 1)) none = (l.drop (A + 1)).map D.int := by
  unfold Mi.cutD HT.sIx
  dsimp only
  rw [if_neg (by omega), List.length_map, show ((A : Int) + 1).toNat = A + 1 by omega, Nat.min_eq_left (by omega), ← List.map_drop, List.take_of_length_le (by simp)]
theorem len_ls {r : Nat} {ys : List Int} {h : Hd} (e : h[r]? = some (.lst (ys.map .int))) : gLen [.ref r] h = .ok (.int (ys.length : Nat)) h := by
  unfold gLen
  dsimp only [seqD]
  rw [e]
  dsimp only
  rw [List.length_map]
theorem cat_ls {r t : Nat} {ys zs : List Int} {h : Hd} (e : h[r]? = some (.lst (ys.map .int))) (e2 : h[t]? = some (.lst (zs.map .int))) (hl : ys.length + zs.length ≤ 1000) : gAdd (.ref r) (.ref t) h = .ok (.ref h.length) (h ++ [.lst ((ys ++ zs).map .int)]) := by
  unfold gAdd
  dsimp only
  rw [e, e2]
  dsimp only
  rw [List.length_map, List.length_map, if_pos (by omega), List.map_append]
theorem quid_ok (s : Nat) (n : Int) (h : Hd) (hn : n ≤ 80000) (st : St s n h) : ∃ ys h', s__law_quiddity [.ref s, .int 9] h = .ok (tI ys) h' ∧ 3 ≤ ys.length ∧ ys.length ≤ 9 ∧ (∀ y ∈ ys, 1 ≤ y ∧ y ≤ 100) ∧ St s (n + 40) h' ∧ Kp [s] h h' := by
  have b0 : b__law_quiddity_0 [some (.ref s), some (.int 9), none, none, none] h = .nx [some (.ref s), some (.int 9), some (.ref h.length), none, none] (h ++ [.lst [.int 1, .int 1, .int 1]]) := by
    simp [b__law_quiddity_0]
  have st0 : St s n (h ++ [.lst [.int 1, .int 1, .int 1]]) := st.keep Kp.app
  obtain ⟨d, h1, e1, d0, d1, st1, kp1⟩ := digit_ok s n 7 (by decide) (by decide) (by omega) _ st0
  have hs := st.lt
  have rng : iRng1D (aCons (eCall s__law_digit (aCons (eVar 0) (aCons (eOp Mi.gSub (eVar 1) (eC (.int 2))) aNil))) aNil) [some (.ref s), some (.int 9), some (.ref h.length), none, none] (h ++ [.lst [.int 1, .int 1, .int 1]]) = .ok (rngS 0 d.toNat 1) h1 :=
    rng1_ok (cons_ok ((call_ok (ds := [.ref s, .int 7]) rfl).trans e1) rfl) (rng_small (by omega) (by omega))
  have key := for_inv (src := rngS 0 d.toNat 1) (tg := gSet 3) (body := (sSeq (sAsg (eCall s__law_digit (aCons (eVar 0) (aCons (eCall gLen (aCons (eVar 2) aNil)) aNil))) (gSet 4))
    (sSeq (sStore (eOp gAdd (eOp gIx (eVar 2) (eVar 4)) (eC (.int 1))) (eVar 2) (eVar 4))
    (sSeq (sStore (eOp gAdd (eOp gIx (eVar 2) (eOp gMod (eOp gAdd (eVar 4) (eC (.int 1))) (eCall gLen (aCons (eVar 2) aNil)))) (eC (.int 1))) (eVar 2) (eOp gMod (eOp gAdd (eVar 4) (eC (.int 1))) (eCall gLen (aCons (eVar 2) aNil))))
    (sAsg (eOp gAdd (eOp gAdd (eSl (eVar 2) oNone (oSome (eOp gAdd (eVar 4) (eC (.int 1))))) (eLst (aCons (eC (.int 1)) aNil))) (eSl (eVar 2) (oSome (eOp gAdd (eVar 4) (eC (.int 1)))) oNone)) (gSet 2))))))
    (env := [some (.ref s), some (.int 9), some (.ref h.length), none, none]) (h := h1) d.toNat (fun i => .int (0 + (i : Nat) * 1))
    (fun i env h2 => ∃ r v w ys, env = [some (.ref s), some (.int 9), some (.ref r), v, w] ∧ LsI r ys h2 ∧ h.length ≤ r ∧ ys.length = 3 + i ∧ (∀ y ∈ ys, 1 ≤ y ∧ y ≤ 1 + 2 * (i : Int)) ∧ St s (n + 4 + 4 * (i : Nat)) h2 ∧ Kp [s] h h2)
    ⟨h.length, none, none, [1, 1, 1], rfl, kp1.at_ _ _ (by simp; omega) (by rw [app_at0]; rfl), Nat.le_refl _, rfl, by simp, by simpa using st1, (Kp.app (S := [s])).trans kp1⟩ ?_ ?_ (by rw [most_eq]; omega)
  · obtain ⟨env', h2, e2, r, v, w, ys, rfl, q1, q2, q3, q4, q5, kp2⟩ := key
    refine ⟨ys, h2, ?_, by omega, by omega, fun y hy => ⟨(q4 y hy).1, by have := (q4 y hy).2; omega⟩, ?_, kp2⟩
    · have b1 : b__law_quiddity_1 [some (.ref s), some (.int 9), some (.ref h.length), none, none] (h ++ [.lst [.int 1, .int 1, .int 1]]) = .nx [some (.ref s), some (.int 9), some (.ref r), v, w] h2 := by
        unfold b__law_quiddity_1
        rw [sFor_ok rng]
        exact e2
      have b2 : b__law_quiddity_2 [some (.ref s), some (.int 9), some (.ref r), v, w] h2 = .rt (tI ys) h2 := by
        unfold b__law_quiddity_2
        refine ret_ok ((call_ok (ds := [.ref r]) rfl).trans ?_)
        unfold gTuple
        dsimp only [seqD]
        rw [show h2[r]? = some (.lst (ys.map .int)) from q1]
        rfl
      exact run_rt [some (.ref s), some (.int 9), none, none, none] ((seq_nx b0).trans ((seq_nx b1).trans b2))
    · obtain ⟨l, c, t, z1, z2, z3, z4⟩ := q5
      exact ⟨l, c, t, z1, z2, z3, by omega⟩
  · rintro i env h2 hi ⟨r, v, w, ys, rfl, q1, q2, q3, q4, q5, kp2⟩
    have q1 : h2[r]? = some (.lst (ys.map .int)) := q1
    obtain ⟨a, h3, e3, a0, a1, st3, kp3⟩ := digit_ok s (n + 4 + 4 * (i : Nat)) (ys.length : Nat) (by omega) (by omega) (by omega) h2 q5
    have hr : r ≠ s := by omega
    obtain ⟨A, rfl⟩ : ∃ A : Nat, a = (A : Int) := ⟨a.toNat, by omega⟩
    have hA : A < ys.length := by omega
    have q6 : h3[r]? = some (.lst (ys.map .int)) := kp3.at_ _ _ (by simpa using hr) q1
    have hr3 : r < h3.length := (List.getElem?_eq_some_iff.mp q6).1
    let ys1 := ys.set A (ys.getD A 0 + 1)
    let B := (A + 1) % ys.length
    let ys2 := ys1.set B (ys1.getD B 0 + 1)
    have l1 : ys1.length = ys.length := List.length_set
    have l2 : ys2.length = ys.length := List.length_set.trans l1
    have hB : B < ys1.length := by rw [l1]; exact Nat.mod_lt _ (by omega)
    have bd1 := inc_bd hA q4
    have bd2 := inc_bd hB bd1
    let h4 := h3.set r (.lst (ys1.map .int))
    let h5 := h4.set r (.lst (ys2.map .int))
    have q7 : h4[r]? = some (.lst (ys1.map .int)) := List.getElem?_set_self hr3
    have q8 : h5[r]? = some (.lst (ys2.map .int)) := List.getElem?_set_self (by rw [List.length_set]; exact hr3)
    have kp5 : Kp [s] h h5 := ((kp2.trans kp3).setNew q2).setNew q2
    have st5 : St s (n + 4 + 4 * ((i : Nat) : Int) + 4) h5 := by
      obtain ⟨l, c, t, z1, z⟩ := st3
      exact ⟨l, c, t, by rw [List.getElem?_set_ne hr, List.getElem?_set_ne hr]; exact z1, z⟩
    let E3 : En := [some (.ref s), some (.int 9), some (.ref r), some (.int (0 + (i : Nat) * 1)), some (.int (A : Nat))]
    have w1 : sAsg (eCall s__law_digit (aCons (eVar 0) (aCons (eCall gLen (aCons (eVar 2) aNil)) aNil))) (gSet 4) [some (.ref s), some (.int 9), some (.ref r), some (.int (0 + (i : Nat) * 1)), w] h2 = .nx E3 h3 :=
      asg_ok (i := 4) ((call_ok (cons_ok rfl (cons_ok ((call_ok (ds := [.ref r]) rfl).trans (len_ls q1)) rfl))).trans e3) (by simp)
    have w2 : sStore (eOp gAdd (eOp gIx (eVar 2) (eVar 4)) (eC (.int 1))) (eVar 2) (eVar 4) E3 h3 = .nx E3 h4 :=
      Lw.store_ok ((op_ok ((op_ok (x := .ref r) (y := .int (A : Nat)) rfl rfl).trans (ix_ls q6 hA)) rfl).trans rfl) rfl rfl (set_ls q6 hA)
    have eB : eOp gMod (eOp gAdd (eVar 4) (eC (.int 1))) (eCall gLen (aCons (eVar 2) aNil)) E3 h4 = .ok (.int (B : Nat)) h4 := by
      refine (op_ok (x := .int ((A + 1 : Nat) : Int)) ((op_ok rfl rfl).trans rfl) ((call_ok (ds := [.ref r]) rfl).trans (len_ls q7))).trans ?_
      unfold gMod
      dsimp only
      rw [if_pos (decide_eq_true (by omega)), fmod_nat, l1]
    have w3 : sStore (eOp gAdd (eOp gIx (eVar 2) (eOp gMod (eOp gAdd (eVar 4) (eC (.int 1))) (eCall gLen (aCons (eVar 2) aNil)))) (eC (.int 1))) (eVar 2) (eOp gMod (eOp gAdd (eVar 4) (eC (.int 1))) (eCall gLen (aCons (eVar 2) aNil))) E3 h4 = .nx E3 h5 :=
      Lw.store_ok ((op_ok ((op_ok (x := .ref r) rfl eB).trans (ix_ls q7 hB)) rfl).trans rfl) rfl eB (set_ls q7 hB)
    have hA2 : A < ys2.length := by rw [l2]; exact hA
    let p := ys2.take (A + 1)
    let d2 := ys2.drop (A + 1)
    have lp : p.length ≤ 20 := by rw [List.length_take]; omega
    have ld : d2.length ≤ 20 := by rw [List.length_drop]; omega
    have g1 : eSl (eVar 2) oNone (oSome (eOp gAdd (eVar 4) (eC (.int 1)))) E3 h5 = .ok (.ref h5.length) (h5 ++ [.lst (p.map .int)]) := by
      show gSl (.ref r) none (some ((A : Int) + 1)) h5 = _
      unfold gSl
      dsimp only
      rw [q8]
      dsimp only
      rw [cut_lo ys2 A hA2]
    have g2 : eOp gAdd (eSl (eVar 2) oNone (oSome (eOp gAdd (eVar 4) (eC (.int 1))))) (eLst (aCons (eC (.int 1)) aNil)) E3 h5 = .ok (.ref (h5.length + 2)) (h5 ++ [.lst (p.map .int), .lst [.int 1], .lst ((p ++ [1]).map .int)]) := by
      have z : eLst (aCons (eC (.int 1)) aNil) E3 (h5 ++ [.lst (p.map .int)]) = .ok (.ref (h5.length + 1)) (h5 ++ [.lst (p.map .int), .lst [.int 1]]) := by simp
      refine (op_ok g1 z).trans ((cat_ls (ys := p) (zs := [1]) (by rw [app_at0]; rfl) (by rw [app_at]; rfl) (by simp; omega)).trans ?_)
      simp
    have q9 : (h5 ++ [Ob.lst (p.map .int), .lst [.int 1], .lst ((p ++ [1]).map .int)])[r]? = some (.lst (ys2.map .int)) := app_old q8
    have g3 : eSl (eVar 2) (oSome (eOp gAdd (eVar 4) (eC (.int 1)))) oNone E3 (h5 ++ [.lst (p.map .int), .lst [.int 1], .lst ((p ++ [1]).map .int)]) = .ok (.ref (h5.length + 3)) (h5 ++ [.lst (p.map .int), .lst [.int 1], .lst ((p ++ [1]).map .int), .lst (d2.map .int)]) := by
      show gSl (.ref r) (some ((A : Int) + 1)) none _ = _
      unfold gSl
      dsimp only
      rw [q9]
      dsimp only
      rw [cut_hi ys2 A hA2]
      simp [d2]
    have w4 : sAsg (eOp gAdd (eOp gAdd (eSl (eVar 2) oNone (oSome (eOp gAdd (eVar 4) (eC (.int 1))))) (eLst (aCons (eC (.int 1)) aNil))) (eSl (eVar 2) (oSome (eOp gAdd (eVar 4) (eC (.int 1)))) oNone)) (gSet 2) E3 h5 =
        .nx [some (.ref s), some (.int 9), some (.ref (h5.length + 4)), some (.int (0 + (i : Nat) * 1)), some (.int (A : Nat))] (h5 ++ [.lst (p.map .int), .lst [.int 1], .lst ((p ++ [1]).map .int), .lst (d2.map .int), .lst ((p ++ [1] ++ d2).map .int)]) := by
      refine asg_ok (i := 2) ((op_ok g2 g3).trans ((cat_ls (ys := p ++ [1]) (zs := d2) (by rw [app_at]; rfl) (by rw [app_at]; rfl) (by simp; omega)).trans ?_)) (by simp [E3])
      simp
    have kl : h.length ≤ h5.length := kp5.len
    refine ⟨rng_item hi, [some (.ref s), some (.int 9), some (.ref (h5.length + 4)), some (.int (0 + (i : Nat) * 1)), some (.int (A : Nat))], h5 ++ [.lst (p.map .int), .lst [.int 1], .lst ((p ++ [1]).map .int), .lst (d2.map .int), .lst ((p ++ [1] ++ d2).map .int)], ?_, h5.length + 4, some (.int (0 + (i : Nat) * 1)), some (.int (A : Nat)), p ++ [1] ++ d2, rfl, ?_, by omega, ?_, ?_, ?_, kp5.trans Kp.app⟩
    · show (match sSeq _ _ [some (.ref s), some (.int 9), some (.ref r), some (.int (0 + (i : Nat) * 1)), w] h2 with
        | .ct env2 h2 => SRes.nx env2 h2
        | r => r) = _
      rw [seq_nx w1, seq_nx w2, seq_nx w3, w4]
    · show (h5 ++ _)[h5.length + 4]? = _
      rw [app_at]; rfl
    · simp only [List.length_append, List.length_take, List.length_drop, List.length_singleton, p, d2]
      omega
    · intro y hy
      simp only [List.mem_append, List.mem_singleton] at hy
      rcases hy with (hy | hy) | hy
      · have := bd2 y (List.mem_of_mem_take hy); omega
      · omega
      · have := bd2 y (List.mem_of_mem_drop hy); omega
    · have := st5.keep (Kp.app (S := []) (g := [Ob.lst (p.map .int), .lst [.int 1], .lst ((p ++ [1]).map .int), .lst (d2.map .int), .lst ((p ++ [1] ++ d2).map .int)]))
      have e0 : n + 4 + 4 * ((i : Nat) : Int) + 4 = n + 4 + 4 * (((i + 1 : Nat)) : Int) := by omega
      rw [e0] at this
      exact this
  · rintro env h2 _
    exact rng_stop

theorem drawn_ok (s : Nat) (n : Int) (h : Hd) (hn : n ≤ 70000) (st : St s n h) : ∃ xs h', s__law_drawn [.ref s, .int 9] h = .ok (tI xs) h' ∧ Good xs ∧ St s (n + 400) h' ∧ Kp [s] h h' := by
  obtain ⟨way, h1, e1, w0, w1, st1, kp1⟩ := digit_ok s n 4 (by decide) (by decide) (by omega) h st
  obtain ⟨ys, h2, e2, l3, l9, bd, st2, kp2⟩ := quid_ok s (n + 4) h1 (by omega) st1
  have kp12 := kp1.trans kp2
  have hs2 := st2.lt
  let h3 := h2 ++ [Ob.lst (ys.map .int)]
  have q3 : h3[h2.length]? = some (.lst (ys.map .int)) := by show (h2 ++ _)[h2.length]? = _; rw [app_at0]; rfl
  have st3 : St s (n + 4 + 40) h3 := st2.keep Kp.app
  have b0 : b__law_drawn_0 [some (.ref s), some (.int 9), none, none, none, none, none] h = .nx [some (.ref s), some (.int 9), some (.int way), some (.ref h2.length), none, none, none] h3 := by
    have a1 : aCons (eCall s__law_digit (aCons (eVar 0) (aCons (eC (.int 4)) aNil))) (aCons (eCall gList (aCons (eCall s__law_quiddity (aCons (eVar 0) (aCons (eVar 1) aNil))) aNil)) aNil) [some (.ref s), some (.int 9), none, none, none, none, none] h = .ok [.int way, .ref h2.length] h3 := by
      refine cons_ok ((call_ok (ds := [.ref s, .int 4]) rfl).trans e1) (cons_ok ((call_ok (cons_ok ((call_ok (ds := [.ref s, .int 9]) rfl).trans e2) rfl)).trans ?_) rfl)
      rfl
    unfold b__law_drawn_0 sPar2
    rw [a1]
    rfl
  have t1 : tOf (eOp gEq (eVar 2) (eC (.int 1))) [some (.ref s), some (.int 9), some (.int way), some (.ref h2.length), none, none, none] h3 = .ok (decide (way = 1)) h3 := by
    refine tOf_ok ((op_ok rfl rfl).trans ?_)
    rfl
  by_cases hw : way = 1
  · -- a row of digits
    have key := lc_inv (src := liveS h2.length) (tg := gSet 6) (tst := tYesD) (el := eOp Mi.gSub (eCall s__law_digit (aCons (eVar 0) (aCons (eC (.int 7)) aNil))) (eC (.int 2))) (env := [some (.ref s), some (.int 9), some (.int way), some (.ref h2.length), none, none, none]) (h := h3) ys.length (fun i => .int (ys.getD i 0))
      (fun i h' acc => ∃ zs : List Int, acc = zs.map .int ∧ zs.length = i ∧ (∀ z ∈ zs, -2 ≤ z ∧ z ≤ 4) ∧ St s (n + 4 + 40 + 4 * (i : Nat)) h' ∧ Kp [s] h3 h') ⟨[], rfl, rfl, by simp, by simpa using st3.keep Kp.app, Kp.app⟩ ?_ ?_ (by omega)
    · obtain ⟨h', acc, e, q, _, zs, rfl, z1, z2, st4, kp4⟩ := key
      have c1 : eCall gTuple (aCons (eLc (iOf (eVar 3)) (gSet 6) tYesD (eOp Mi.gSub (eCall s__law_digit (aCons (eVar 0) (aCons (eC (.int 7)) aNil))) (eC (.int 2))) [6]) aNil) [some (.ref s), some (.int 9), some (.int way), some (.ref h2.length), none, none, none] h3 = .ok (tI zs) h' := by
        have iw : iOf (eVar 3) [some (.ref s), some (.int 9), some (.int way), some (.ref h2.length), none, none, none] h3 = .ok (liveS h2.length) h3 := by
          show walk1 (.ref h2.length) h3 = _
          unfold walk1
          dsimp only
          rw [q3]
        refine (call_ok (cons_ok ((eLc_ok iw).trans (show _ = Res.ok (D.ref h3.length) h' from e)) rfl)).trans ?_
        unfold gTuple
        dsimp only [seqD]
        rw [q]
        rfl
      have b1 : b__law_drawn_1 [some (.ref s), some (.int 9), some (.int way), some (.ref h2.length), none, none, none] h3 = .rt (tI zs) h' := by
        unfold b__law_drawn_1
        rw [if_ok t1, decide_eq_true hw, if_pos rfl]
        exact ret_ok c1
      refine ⟨zs, h', ?_, ⟨fun z hz => by have := z2 z hz; omega, by omega, by omega⟩, ?_, (kp12.trans Kp.app).trans kp4⟩
      · have : sSeq b__law_drawn_1 (sSeq b__law_drawn_2 b__law_drawn_3) [some (.ref s), some (.int 9), some (.int way), some (.ref h2.length), none, none, none] h3 = .rt (tI zs) h' := by
          show (match b__law_drawn_1 [some (.ref s), some (.int 9), some (.int way), some (.ref h2.length), none, none, none] h3 with
            | .nx env1 h1 => sSeq b__law_drawn_2 b__law_drawn_3 env1 h1
            | r => r) = _
          rw [b1]
        exact run_rt [some (.ref s), some (.int 9), none, none, none, none, none] ((seq_nx b0).trans this)
      · obtain ⟨l, c, t, y1, y2, y3, y4⟩ := st4
        exact ⟨l, c, t, y1, y2, y3, by omega⟩
    · rintro i h' acc hi ⟨zs, rfl, z1, z2, st4, kp4⟩ ha
      obtain ⟨d, h4, e4, d0, d1, st5, kp5⟩ := digit_ok s (n + 4 + 40 + 4 * (i : Nat)) 7 (by decide) (by decide) (by omega) h' st4
      have hk : h3.length ≠ s := by have := st3.lt; omega
      refine ⟨?_, [.int (d - 2)], h4, ?_, kp5.at_ _ _ (by simpa using hk) ha, zs ++ [d - 2], by simp, by simp [z1], ?_, ?_, (kp4.trans kp5).setNew (Nat.le_refl _)⟩
      · have hk2 : h2.length ≠ s := by omega
        rw [live_item (.inl (kp4.at_ _ _ (by simpa using hk2) q3)) (by simpa using hi), getD_int hi]
      · have : eOp Mi.gSub (eCall s__law_digit (aCons (eVar 0) (aCons (eC (.int 7)) aNil))) (eC (.int 2)) [some (.ref s), some (.int 9), some (.int way), some (.ref h2.length), none, none, some (.int (ys.getD i 0))] h' = .ok (.int (d - 2)) h4 := (op_ok ((call_ok (ds := [.ref s, .int 7]) rfl).trans e4) rfl).trans rfl
        show (match eOp Mi.gSub (eCall s__law_digit (aCons (eVar 0) (aCons (eC (.int 7)) aNil))) (eC (.int 2)) [some (.ref s), some (.int 9), some (.int way), some (.ref h2.length), none, none, some (.int (ys.getD i 0))] h' with
          | .ok y h3 => Res.ok [y] h3
          | _ => .no) = _
        rw [this]
      · intro z hz
        simp only [List.mem_append, List.mem_singleton] at hz
        rcases hz with hz | hz
        · exact z2 z hz
        · omega
      · obtain ⟨l, c, t, y1, y2, y3, y4⟩ := st5
        exact ⟨l, c, t, by rw [List.getElem?_set_ne hk]; exact y1, y2, y3, by omega⟩
    · rintro h' acc ⟨zs, rfl, z1, z2, st4, kp4⟩ ha
      have hk2 : h2.length ≠ s := by omega
      have := live_stop (h := h') (.inl (kp4.at_ _ _ (by simpa using hk2) q3))
      rwa [List.length_map] at this
  · -- some places shaken
    have b1 : b__law_drawn_1 [some (.ref s), some (.int 9), some (.int way), some (.ref h2.length), none, none, none] h3 = .nx [some (.ref s), some (.int 9), some (.int way), some (.ref h2.length), none, none, none] h3 := by
      unfold b__law_drawn_1
      rw [if_ok t1, decide_eq_false hw, if_neg (by decide)]
      rfl
    obtain ⟨m, hm, hm3⟩ : ∃ m : Nat, eIf (tOf (eOp gGt (eVar 2) (eC (.int 1)))) (eOp Mi.gSub (eVar 2) (eC (.int 1))) (eC (.int 0)) [some (.ref s), some (.int 9), some (.int way), some (.ref h2.length), none, none, none] h3 = .ok (.int (m : Nat)) h3 ∧ m ≤ 3 := by
      have t2 : tOf (eOp gGt (eVar 2) (eC (.int 1))) [some (.ref s), some (.int 9), some (.int way), some (.ref h2.length), none, none, none] h3 = .ok (decide (1 < way)) h3 := tOf_ok ((op_ok rfl rfl).trans rfl)
      by_cases h1w : 1 < way
      · refine ⟨(way - 1).toNat, ?_, by omega⟩
        show (tOf _ _ h3).bind _ = _
        rw [t2, decide_eq_true h1w, show (((way - 1).toNat : Nat) : Int) = way - 1 by omega]
        show eOp Mi.gSub (eVar 2) (eC (.int 1)) [some (.ref s), some (.int 9), some (.int way), some (.ref h2.length), none, none, none] h3 = _
        exact (op_ok (x := .int way) (y := .int 1) rfl rfl).trans rfl
      · refine ⟨0, ?_, by omega⟩
        show (tOf _ _ h3).bind _ = _
        rw [t2, decide_eq_false h1w]
        rfl
    have key := for_inv (src := rngS 0 m 1) (tg := gSet 4) (body := (sSeq (sAsg (eCall s__law_digit (aCons (eVar 0) (aCons (eCall gLen (aCons (eVar 3) aNil)) aNil))) (gSet 5))
      (sStore (eOp Mi.gSub (eOp gAdd (eOp gIx (eVar 3) (eVar 5)) (eCall s__law_digit (aCons (eVar 0) (aCons (eC (.int 3)) aNil)))) (eC (.int 1))) (eVar 3) (eVar 5))))
      (env := [some (.ref s), some (.int 9), some (.int way), some (.ref h2.length), none, none, none]) (h := h3) m (fun i => .int (0 + (i : Nat) * 1))
      (fun i env h' => ∃ v w zs, env = [some (.ref s), some (.int 9), some (.int way), some (.ref h2.length), v, w, none] ∧ h'[h2.length]? = some (.lst (zs.map .int)) ∧ zs.length = ys.length ∧ (∀ z : Int, z ∈ zs → 1 - ((i : Nat) : Int) ≤ z ∧ z ≤ 100 + ((i : Nat) : Int)) ∧ St s (n + 4 + 40 + 8 * (i : Nat)) h' ∧ Kp [s] h2 h')
      ⟨none, none, ys, rfl, q3, rfl, by simpa using bd, by simpa using st3, Kp.app⟩ ?_ ?_ (by rw [most_eq]; omega)
    · obtain ⟨env', h', e, v, w, zs, rfl, q, z1, z2, st4, kp4⟩ := key
      have b2 : b__law_drawn_2 [some (.ref s), some (.int 9), some (.int way), some (.ref h2.length), none, none, none] h3 = .nx [some (.ref s), some (.int 9), some (.int way), some (.ref h2.length), v, w, none] h' := by
        unfold b__law_drawn_2
        rw [sFor_ok (rng1_ok (cons_ok hm rfl) (rng_small (by omega) (by omega))), Int.toNat_natCast]
        exact e
      have b3 : b__law_drawn_3 [some (.ref s), some (.int 9), some (.int way), some (.ref h2.length), v, w, none] h' = .rt (tI zs) h' := by
        unfold b__law_drawn_3
        refine ret_ok ((call_ok (ds := [.ref h2.length]) rfl).trans ?_)
        unfold gTuple
        dsimp only [seqD]
        rw [q]
        rfl
      refine ⟨zs, h', run_rt [some (.ref s), some (.int 9), none, none, none, none, none] ((seq_nx b0).trans ((seq_nx b1).trans ((seq_nx b2).trans b3))), ⟨fun z hz => by have := z2 z hz; omega, by omega, by omega⟩, ?_, kp12.trans kp4⟩
      obtain ⟨l, c, t, y1, y2, y3, y4⟩ := st4
      exact ⟨l, c, t, y1, y2, y3, by omega⟩
    · rintro i env h' hi ⟨v, w, zs, rfl, q, z1, z2, st4, kp4⟩
      obtain ⟨a, h4, e4, a0, a1, st5, kp5⟩ := digit_ok s (n + 4 + 40 + 8 * (i : Nat)) (zs.length : Nat) (by omega) (by omega) (by omega) h' st4
      obtain ⟨d, h5, e5, d0, d1, st6, kp6⟩ := digit_ok s (n + 4 + 40 + 8 * (i : Nat) + 4) 3 (by decide) (by decide) (by omega) h4 st5
      obtain ⟨A, rfl⟩ : ∃ A : Nat, a = (A : Int) := ⟨a.toNat, by omega⟩
      have hA : A < zs.length := by omega
      have hk2 : h2.length ≠ s := by omega
      have q4 : h4[h2.length]? = some (.lst (zs.map .int)) := kp5.at_ _ _ (by simpa using hk2) q
      have q5 : h5[h2.length]? = some (.lst (zs.map .int)) := kp6.at_ _ _ (by simpa using hk2) q4
      have hr5 : h2.length < h5.length := (List.getElem?_eq_some_iff.mp q5).1
      have hg : zs.getD A 0 ∈ zs := by
        rw [List.getD_eq_getElem?_getD, List.getElem?_eq_getElem hA]
        exact List.getElem_mem hA
      have bg := z2 _ hg
      let x := zs.getD A 0 + d - 1
      let E3 : En := [some (.ref s), some (.int 9), some (.int way), some (.ref h2.length), some (.int (0 + (i : Nat) * 1)), some (.int (A : Nat)), none]
      have w1 : sAsg (eCall s__law_digit (aCons (eVar 0) (aCons (eCall gLen (aCons (eVar 3) aNil)) aNil))) (gSet 5) [some (.ref s), some (.int 9), some (.int way), some (.ref h2.length), some (.int (0 + (i : Nat) * 1)), w, none] h' = .nx E3 h4 :=
        asg_ok (i := 5) ((call_ok (cons_ok rfl (cons_ok ((call_ok (ds := [.ref h2.length]) rfl).trans (len_ls q)) rfl))).trans e4) (by simp)
      have w2 : sStore (eOp Mi.gSub (eOp gAdd (eOp gIx (eVar 3) (eVar 5)) (eCall s__law_digit (aCons (eVar 0) (aCons (eC (.int 3)) aNil)))) (eC (.int 1))) (eVar 3) (eVar 5) E3 h4 = .nx E3 (h5.set h2.length (.lst ((zs.set A x).map .int))) :=
        Lw.store_ok ((op_ok ((op_ok ((op_ok (x := .ref h2.length) (y := .int (A : Nat)) rfl rfl).trans (ix_ls q4 hA)) ((call_ok (ds := [.ref s, .int 3]) rfl).trans e5)).trans rfl) rfl).trans rfl) rfl rfl (set_ls q5 hA)
      refine ⟨rng_item hi, E3, h5.set h2.length (.lst ((zs.set A x).map .int)), ?_, some (.int (0 + (i : Nat) * 1)), some (.int (A : Nat)), zs.set A x, rfl, List.getElem?_set_self hr5, by rw [List.length_set]; exact z1, ?_, ?_, ((kp4.trans kp5).trans kp6).setNew (Nat.le_refl _)⟩
      · show (match sSeq _ _ [some (.ref s), some (.int 9), some (.int way), some (.ref h2.length), some (.int (0 + (i : Nat) * 1)), w, none] h' with
          | .ct env2 h2 => SRes.nx env2 h2
          | r => r) = _
        rw [seq_nx w1, w2]
      · intro z hz
        rcases List.mem_or_eq_of_mem_set hz with hz | hz
        · have := z2 z hz; omega
        · omega
      · obtain ⟨l, c, t, y1, y2, y3, y4⟩ := st6
        exact ⟨l, c, t, by rw [List.getElem?_set_ne hk2]; exact y1, y2, y3, by omega⟩
    · rintro env h' _
      exact rng_stop
end Lw

set_option Elab.async false
set_option linter.all false
set_option maxRecDepth 100000
set_option maxHeartbeats 1000000
namespace Lw
open PySem PySem.Spec PyProof.Rows L2 Mi
/-! ### the other continuant -/
theorem at_last {pre : List D} {a b : D} : atI (pre ++ [a, b]) (-1) = some b ∧ atI (pre ++ [a, b]) (-2) = some a := by
  have h1 := atI_neg (l := pre ++ [a, b]) (k := 0) (by simp)
  have h2 := atI_neg (l := pre ++ [a, b]) (k := 1) (by simp)
  have e1 : (pre ++ [a, b]).length - 1 - 0 = pre.length + 1 := by simp
  have e2 : (pre ++ [a, b]).length - 1 - 1 = pre.length := by simp
  rw [e1, app_at] at h1
  rw [e2, app_at0] at h2
  exact ⟨h1, h2⟩
theorem law_continuant_ok (xs : List Int) (hs : Sm xs) (hl : xs.length < 1000) (h : Hd) : ∃ g, s__law_continuant [tI xs] h = .ok (.int (Fz.K xs)) (h ++ g) := by
  let zs := xs.reverse
  have hz : Sm zs := fun z hz => hs z (List.mem_reverse.mp hz)
  have lz : zs.length = xs.length := List.length_reverse
  have key := for_inv (src := fixS (zs.map .int)) (tg := gSet 2) (body := sExpr (eMeth "list" mAppend (eVar 1) (aCons (eOp Mi.gSub (eOp gMul (eVar 2) (eOp gIx (eVar 1) (eUn gNeg (eC (.int 1))))) (eOp gIx (eVar 1) (eUn gNeg (eC (.int 2))))) aNil)))
    (env := [some (tI xs), some (.ref h.length), none]) (h := h ++ [.lst [.int 0, .int 1]]) zs.length (fun i => .int (zs.getD i 0)) (fun i env h' => ∃ pre v, h' = h ++ [.lst (pre ++ [.int ((zs.take i).foldl Fz.cs (0, 1)).1, .int ((zs.take i).foldl Fz.cs (0, 1)).2])] ∧ pre.length = i ∧ env = [some (tI xs), some (.ref h.length), v])
    ⟨[], none, rfl, rfl, rfl⟩ ?_ ?_ (by rw [most_eq]; omega)
  · obtain ⟨env', h', e, pre, v, rfl, _, rfl⟩ := key
    rw [List.take_length, Fz.K_cs] at e
    refine ⟨[.lst (pre ++ [.int ((zs.foldl Fz.cs (0, 1)).1), .int (Fz.K zs)])], ?_⟩
    have b0 : b__law_continuant_0 [some (tI xs), none, none] h = .nx [some (tI xs), some (.ref h.length), none] (h ++ [.lst [.int 0, .int 1]]) := by
      simp [b__law_continuant_0]
    have iw : iOf (eRev (eVar 0)) [some (tI xs), some (.ref h.length), none] (h ++ [.lst [.int 0, .int 1]]) = .ok (fixS (zs.map .int)) (h ++ [.lst [.int 0, .int 1]]) := by
      show Res.ok (fixS (xs.map D.int).reverse) _ = _
      rw [List.map_reverse]
    have b1 : b__law_continuant_1 [some (tI xs), some (.ref h.length), none] (h ++ [.lst [.int 0, .int 1]]) = .nx [some (tI xs), some (.ref h.length), v] (h ++ [.lst (pre ++ [.int ((zs.foldl Fz.cs (0, 1)).1), .int (Fz.K zs)])]) := by
      unfold b__law_continuant_1
      rw [sFor_ok iw]
      exact e
    have b2 : b__law_continuant_2 [some (tI xs), some (.ref h.length), v] (h ++ [.lst (pre ++ [.int ((zs.foldl Fz.cs (0, 1)).1), .int (Fz.K zs)])]) = .rt (.int (Fz.K xs)) (h ++ [.lst (pre ++ [.int ((zs.foldl Fz.cs (0, 1)).1), .int (Fz.K zs)])]) := by
      have := (at_last (pre := pre) (a := .int ((zs.foldl Fz.cs (0, 1)).1)) (b := .int (Fz.K zs))).1
      simp [b__law_continuant_2, this]
      exact Fz.K_rev xs
    exact run_rt [some (tI xs), none, none] ((seq_nx b0).trans ((seq_nx b1).trans b2))
  · rintro i env h' hi ⟨pre, v, rfl, hp, rfl⟩
    have hx := sm_at hz hi
    have ht : (zs.take (i + 1)).foldl Fz.cs (0, 1) = Fz.cs ((zs.take i).foldl Fz.cs (0, 1)) (zs.getD i 0) := by
      rw [List.take_add_one, List.getElem?_eq_getElem hi, List.foldl_append, List.getD_eq_getElem?_getD, List.getElem?_eq_getElem hi]
      rfl
    refine ⟨?_, ?_⟩
    · rw [fix_item (by simpa using hi), getD_int hi]
    · rw [ht]
      generalize zs.getD i 0 = p at *
      generalize (zs.take i).foldl Fz.cs (0, 1) = t
      obtain ⟨a, b⟩ := t
      obtain ⟨a1, a2⟩ := at_last (pre := pre) (a := .int a) (b := .int b)
      have hln : (pre ++ [D.int a, .int b]).length < 16777216 := by simp; omega
      refine ⟨[some (tI xs), some (.ref h.length), some (.int p)], h ++ [.lst (pre ++ [.int a, .int b] ++ [.int (p * b - a)])], ?_, pre ++ [.int a], some (.int p), ?_, by simp [hp], rfl⟩
      · generalize pre ++ [D.int a, .int b] = l at *
        simp [stepS, gMul, sm_mul hx, a1, a2, hln]
      · simp [Fz.cs]
  · rintro env h' ⟨pre, v, rfl, hp, rfl⟩
    have := fix_stop (xs := zs.map D.int) (h := h ++ [.lst (pre ++ [.int ((zs.take zs.length).foldl Fz.cs (0, 1)).1, .int ((zs.take zs.length).foldl Fz.cs (0, 1)).2])])
    rwa [List.length_map] at this
/-! ### what is refused -/
theorem seq_ex {f g : Fs} {env env1 : En} {h h1 : Hd} {e : Exn} (q : f env h = .ex e env1 h1) : sSeq f g env h = .ex e env1 h1 := by
  show (match f env h with
    | .nx env1 h1 => g env1 h1
    | r => r) = _
  rw [q]
theorem run_ex {m : Nat} {b : Fs} {ds : List D} {h h' : Hd} {e : Exn} {env' : En} (env : En) (q : b env h = .ex e env' h') (he : ds.map some ++ List.replicate (m - ds.length) none = env := by rfl) : runF m b ds h = .ex e h' := by
  unfold runF
  rw [he, q]
theorem expr_ex {fe : Fe} {env : En} {h h' : Hd} {x : Exn} (q : fe env h = .ex x h') : sExpr fe env h = .ex x env h' := by
  show (match fe env h with
    | .ok d h1 => SRes.nx env h1
    | .ex e h1 => .ex e env h1
    | .no => .no) = _
  rw [q]
def okD : D → Bool
  | .int x => decide (-1000 ≤ x) && decide (x ≤ 1000)
  | _ => false
def plain : D → Bool
  | .int _ => true
  | .non => true
  | .bl _ => true
  | .str _ => true
  | _ => false
theorem is_whole_any {d : D} (hp : plain d = true) (h : Hd) : s_is_whole [d, .int (-1000), .int 1000] h = .ok (.bl (okD d)) h := by
  cases d with
  | int x => exact is_whole_int x (-1000) 1000 h
  | non => exact is_whole_non _ _ h
  | bl b => exact is_whole_bl b _ _ h
  | str z => exact is_whole_str z _ _ h
  | _ => cases hp
def badIx (ds : List D) : Nat → List D
  | 0 => []
  | i + 1 => badIx ds i ++ (if okD (ds.getD i .non) = true then [] else [.int (i : Nat)])
theorem wrong_gen (ds : List D) (hp : ∀ d ∈ ds, plain d = true) (least : Nat) (h1 : least ≤ ds.length) (h2 : ds.length ≤ 24) (h : Hd) : s_wrong_numbers [.tup ds, .int (least : Nat)] h = .ok (.ref h.length) (h ++ [.lst (badIx ds ds.length)]) := by
  have key := lc_inv (src := enmS (fixS ds)) (tg := gUnp 2 (gsCons (gSet 2) (gsCons (gSet 3) gsNil))) (tst := tNotD (tOf (eCall s_is_whole (aCons (eVar 3) (aCons (eOp Mi.gSub (eC (.int 0)) (eC (.int (1000)))) (aCons (eC (.int (1000))) aNil)))))) (el := eVar 2) (env := [some (.tup ds), some (.int (least : Nat)), none, none]) (h := h) ds.length (fun i => .tup [.int (i : Nat), ds.getD i .non])
    (fun i h' acc => h' = h ++ [.lst acc] ∧ acc = badIx ds i) ⟨rfl, rfl⟩ ?_ ?_ (by omega)
  · obtain ⟨h', acc', e, _, _, rfl, rfl⟩ := key
    have hl : ¬ (24 : Int) < ds.length := by omega
    have hl2 : (least : Int) ≤ ds.length := by omega
    have b0 : b_wrong_numbers_0 [some (.tup ds), some (.int (least : Nat)), none, none] h = .nx [some (.tup ds), some (.int (least : Nat)), none, none] h := by
      simp [b_wrong_numbers_0, tqs, h1, h2, hl, hl2]
    have b1 : b_wrong_numbers_1 [some (.tup ds), some (.int (least : Nat)), none, none] h = .rt (.ref h.length) (h ++ [.lst (badIx ds ds.length)]) := by
      unfold b_wrong_numbers_1
      refine ret_ok ?_
      rw [eLc_ok (src := enmS (fixS ds)) (h1 := h) rfl]
      exact e
    exact run_rt [some (.tup ds), some (.int (least : Nat)), none, none] ((seq_nx b0).trans b1)
  · rintro i h' acc hi ⟨rfl, rfl⟩ ha
    have hd : plain (ds.getD i .non) = true := by
      rw [List.getD_eq_getElem?_getD, List.getElem?_eq_getElem hi]
      exact hp _ (List.getElem_mem hi)
    refine ⟨enm_item (fix_item hi), _, h ++ [.lst (badIx ds i)], ?_, ha, ?_, rfl⟩
    · have w := is_whole_any hd (h ++ [.lst (badIx ds i)])
      generalize ds.getD i .non = p at *
      show (match tNotD (tOf (eCall s_is_whole (aCons (eVar 3) (aCons (eOp Mi.gSub (eC (.int 0)) (eC (.int (1000)))) (aCons (eC (.int (1000))) aNil))))) [some (.tup ds), some (.int (least : Nat)), some (.int (i : Nat)), some p] (h ++ [.lst (badIx ds i)]) with
        | .ok false h2 => Res.ok [] h2
        | .ok true h2 => (match eVar 2 [some (.tup ds), some (.int (least : Nat)), some (.int (i : Nat)), some p] h2 with
          | .ok y h3 => .ok [y] h3
          | _ => .no)
        | _ => .no) = _
      have t : tNotD (tOf (eCall s_is_whole (aCons (eVar 3) (aCons (eOp Mi.gSub (eC (.int 0)) (eC (.int (1000)))) (aCons (eC (.int (1000))) aNil))))) [some (.tup ds), some (.int (least : Nat)), some (.int (i : Nat)), some p] (h ++ [.lst (badIx ds i)]) = .ok (!okD p) (h ++ [.lst (badIx ds i)]) := by
        show (tOf _ _ _).bind _ = _
        rw [tOf_ok ((call_ok (ds := [p, .int (-1000), .int 1000]) rfl).trans w)]
        rfl
      rw [t]
      cases okD p <;> rfl
    · rw [app_set0]; rfl
  · rintro h' acc ⟨rfl, rfl⟩ _
    exact enm_stop fix_stop
/-- what is no row of numbers at all -/
def noRow (least : Nat) (d : D) (h : Hd) : Bool := match d with
  | .tup ds => decide (ds.length < least) || decide (24 < ds.length)
  | .non => true
  | .ref r => (match h[r]? with
    | some (.lst _) => true
    | _ => false)
  | _ => false
theorem wrong_no (d : D) (least : Nat) (h : Hd) (hn : noRow least d h = true) : s_wrong_numbers [d, .int (least : Nat)] h = .ok (.ref h.length) (h ++ [.lst [.non]]) := by
  have b0 : b_wrong_numbers_0 [some d, some (.int (least : Nat)), none, none] h = .rt (.ref h.length) (h ++ [.lst [.non]]) := by
    cases d with
    | tup ds =>
      unfold noRow at hn
      rw [Bool.or_eq_true, decide_eq_true_eq, decide_eq_true_eq] at hn
      by_cases hl : (least : Int) ≤ ds.length
      · have hl2 : (24 : Int) < ds.length := by omega
        have hl3 : ¬ (ds.length ≤ 24) := by omega
        have hl4 : least ≤ ds.length := by omega
        simp [b_wrong_numbers_0, tqs, hl, hl2, hl3, hl4]
      · have hl4 : ¬ least ≤ ds.length := by omega
        have hl5 : ds.length < least := by omega
        simp [b_wrong_numbers_0, tqs, hl, hl4, hl5]
    | non => simp [b_wrong_numbers_0, tqs]
    | ref r =>
      unfold noRow at hn
      dsimp only at hn
      cases e : h[r]? with
      | none => rw [e] at hn; cases hn
      | some o =>
        rw [e] at hn
        cases o with
        | lst l => simp [b_wrong_numbers_0, tqs, e]
        | _ => cases hn
    | _ => cases hn
  have : b_wrong_numbers [some d, some (.int (least : Nat)), none, none] h = .rt (.ref h.length) (h ++ [.lst [.non]]) := by
    unfold b_wrong_numbers
    show (match b_wrong_numbers_0 [some d, some (.int (least : Nat)), none, none] h with
      | .nx env1 h1 => b_wrong_numbers_1 env1 h1
      | r => r) = _
    rw [b0]
  exact run_rt [some d, some (.int (least : Nat)), none, none] this
/-- d is refused, pl is the place -/
def Plc (pl : D) : Prop := pl = .non ∨ ∃ i : Int, pl = .int i
def Ref (least : Nat) (d pl : D) (h : Hd) : Prop := Plc pl ∧ s_wrong_numbers [d, .int (least : Nat)] h = .ok (.ref h.length) (h ++ [.lst [pl]])
theorem ne_nil {pl : D} {h : Hd} (hp : Plc pl) : gNe (.ref h.length) (.ref (h.length + 1)) (h ++ [.lst [pl], .lst []]) = .ok (.bl true) (h ++ [.lst [pl], .lst []]) := by
  have a0 : (h ++ [Ob.lst [pl], .lst []])[h.length]? = some (.lst [pl]) := by rw [app_at0]; rfl
  have a1 : (h ++ [Ob.lst [pl], .lst []])[h.length + 1]? = some (.lst []) := by rw [app_at]; rfl
  show eqB (.ref h.length) (.ref (h.length + 1)) _ not = _
  rw [eqB_ref]
  generalize (h ++ [Ob.lst [pl], .lst []]) = h' at *
  have p1 : toP maxP h' (.ref (h.length + 1)) = some (.list []) := by
    show (match h'[h.length + 1]? with
      | some (.lst xs) => (xs.mapM (toP 23 h')).map PyData.list
      | some (.fro xs) => (xs.mapM (toP 23 h')).map PyData.list
      | _ => none) = _
    rw [a1]
    rfl
  rcases hp with rfl | ⟨i, rfl⟩
  · have p0 : toP maxP h' (.ref h.length) = some (.list [.none]) := by
      show (match h'[h.length]? with
        | some (.lst xs) => (xs.mapM (toP 23 h')).map PyData.list
        | some (.fro xs) => (xs.mapM (toP 23 h')).map PyData.list
        | _ => none) = _
      rw [a0]
      rfl
    rw [deep_ok p0 p1 (by decide) (by decide)]
    rfl
  · have p0 : toP maxP h' (.ref h.length) = some (.list [.int i]) := by
      show (match h'[h.length]? with
        | some (.lst xs) => (xs.mapM (toP 23 h')).map PyData.list
        | some (.fro xs) => (xs.mapM (toP 23 h')).map PyData.list
        | _ => none) = _
      rw [a0]
      rfl
    rw [deep_ok p0 p1 rfl (by decide)]
    rfl
theorem raise_ok {c f : Str} {fe : Fe} {env : En} {h h1 : Hd} {d : D} (e : fe env h = .ok d h1) : sRaise c f fe env h = .ex ⟨c, f, d⟩ env h1 := by
  show (match fe env h with
    | .ok d h1 => SRes.ex ⟨c, f, d⟩ env h1
    | .ex e h1 => .ex e env h1
    | .no => .no) = _
  rw [e]
theorem ix_first {r : Nat} {pl : D} {h : Hd} (e : h[r]? = some (.lst [pl])) : gIx (.ref r) (.int 0) h = .ok pl h := by
  unfold gIx
  dsimp only
  rw [e]
  rfl
def bfz (pl : D) : Exn := ⟨"BadFrieze", "place", pl⟩
theorem needQ_ref {d pl : D} {h : Hd} (r : Ref 3 d pl h) : s_need_quiddity [d] h = .ex (bfz pl) (h ++ [.lst [pl], .lst []]) := by
  obtain ⟨hp, e⟩ := r
  have b0 : b_need_quiddity_0 [some d, none] h = .nx [some d, some (.ref h.length)] (h ++ [.lst [pl]]) := asg_ok (i := 1) ((call_ok (ds := [d, .int ((3 : Nat) : Int)]) rfl).trans e) (by simp)
  have t : tOf (eOp gNe (eVar 1) (eLst aNil)) [some d, some (.ref h.length)] (h ++ [.lst [pl]]) = .ok true (h ++ [.lst [pl], .lst []]) := by
    refine tOf_ok ((op_ok (x := .ref h.length) (y := .ref (h.length + 1)) (h2 := h ++ [.lst [pl], .lst []]) rfl (by simp)).trans (ne_nil hp))
  have b1 : b_need_quiddity_1 [some d, some (.ref h.length)] (h ++ [.lst [pl]]) = .ex (bfz pl) [some d, some (.ref h.length)] (h ++ [.lst [pl], .lst []]) := by
    unfold b_need_quiddity_1
    rw [if_ok t, if_pos rfl]
    exact raise_ok ((op_ok (x := .ref h.length) (y := .int 0) rfl rfl).trans (ix_first (by rw [app_at0]; rfl)))
  exact run_ex [some d, none] ((seq_nx b0).trans b1)
theorem needN_ref {d pl : D} {h : Hd} (r : Ref 0 d pl h) : s_need_numbers [d, .int 0] h = .ex ⟨"BadRow", "place", pl⟩ (h ++ [.lst [pl], .lst []]) := by
  obtain ⟨hp, e⟩ := r
  have b0 : b_need_numbers_0 [some d, some (.int 0), none] h = .nx [some d, some (.int 0), some (.ref h.length)] (h ++ [.lst [pl]]) := asg_ok (i := 2) ((call_ok (ds := [d, .int ((0 : Nat) : Int)]) rfl).trans e) (by simp)
  have t : tOf (eOp gNe (eVar 2) (eLst aNil)) [some d, some (.int 0), some (.ref h.length)] (h ++ [.lst [pl]]) = .ok true (h ++ [.lst [pl], .lst []]) := by
    refine tOf_ok ((op_ok (x := .ref h.length) (y := .ref (h.length + 1)) (h2 := h ++ [.lst [pl], .lst []]) rfl (by simp)).trans (ne_nil hp))
  have b1 : b_need_numbers_1 [some d, some (.int 0), some (.ref h.length)] (h ++ [.lst [pl]]) = .ex ⟨"BadRow", "place", pl⟩ [some d, some (.int 0), some (.ref h.length)] (h ++ [.lst [pl], .lst []]) := by
    unfold b_need_numbers_1
    rw [if_ok t, if_pos rfl]
    exact raise_ok ((op_ok (x := .ref h.length) (y := .int 0) rfl rfl).trans (ix_first (by rw [app_at0]; rfl)))
  exact run_ex [some d, some (.int 0), none] ((seq_nx b0).trans b1)
theorem cont_ref {d pl : D} {h : Hd} (r : Ref 0 d pl h) : s_continuant [d] h = .ex ⟨"BadRow", "place", pl⟩ (h ++ [.lst [pl], .lst []]) :=
  run_ex [some d] (seq_ex (expr_ex ((call_ok (ds := [d, .int 0]) rfl).trans (needN_ref r))))
theorem deed_ref {d pl : D} {h : Hd} (r : Ref 3 d pl h) : s_frieze_of [d] h = .ex (bfz pl) (h ++ [.lst [pl], .lst []]) ∧ s_is_closed [d] h = .ex (bfz pl) (h ++ [.lst [pl], .lst []]) ∧ s_is_whole_frieze [d] h = .ex (bfz pl) (h ++ [.lst [pl], .lst []]) ∧ s_trace_of [d] h = .ex (bfz pl) (h ++ [.lst [pl], .lst []]) ∧ s_entry_of [d, .non, .non] h = .ex (bfz pl) (h ++ [.lst [pl], .lst []]) :=
  ⟨run_ex [some d, none] (seq_ex (expr_ex ((call_ok (ds := [d]) rfl).trans (needQ_ref r)))), run_ex [some d] (seq_ex (expr_ex ((call_ok (ds := [d]) rfl).trans (needQ_ref r)))), run_ex [some d] (seq_ex (expr_ex ((call_ok (ds := [d]) rfl).trans (needQ_ref r)))),
    run_ex [some d] (seq_ex (expr_ex ((call_ok (ds := [d]) rfl).trans (needQ_ref r)))), run_ex [some d, some .non, some .non] (seq_ex (expr_ex ((call_ok (ds := [d]) rfl).trans (needQ_ref r))))⟩
/-! ### caught -/
def Ct (cr k : Nat) (h : Hd) : Prop := h[cr]? = some (.lst (List.replicate k (.bl true)))
theorem ct_add {cr k : Nat} {h : Hd} (hk : k < 1000) (c : Ct cr k h) : mAppend (.ref cr) [.bl true] h = .ok .non (h.set cr (.lst (List.replicate (k + 1) (.bl true)))) := by
  have c : h[cr]? = some (.lst (List.replicate k (.bl true))) := c
  unfold mAppend
  dsimp only
  rw [c]
  dsimp only
  rw [List.length_replicate, if_pos (by omega), List.replicate_succ', ]
theorem ct_set {cr k : Nat} {h : Hd} (c : Ct cr k h) {o : Ob} : (h.set cr o)[cr]? = some o := List.getElem?_set_self (List.getElem?_eq_some_iff.mp c).1
theorem meth_ok {g : Gm} {fo : Fe} {fa : Fa} {env : En} {h h1 h2 : Hd} {n : Nat} {l : List D} {ds : List D} (e : fo env h = .ok (.ref n) h1) (er : h1[n]? = some (.lst l)) (e2 : fa env h1 = .ok ds h2) : eMeth "list" g fo fa env h = g (.ref n) ds h2 := by
  unfold eMeth
  rw [e]
  show (if recvOk "list" (.ref n) h1 = true then (fa env h1).bind fun ds h2 => g (.ref n) ds h2 else .no) = _
  have : recvOk "list" (.ref n) h1 = true := by unfold recvOk; dsimp only; rw [er]; rfl
  rw [if_pos this, e2]
  rfl
theorem eq_plc {pl : D} {h : Hd} (hp : Plc pl) : gEq pl pl h = .ok (.bl true) h := by
  rcases hp with rfl | ⟨i, rfl⟩
  · rfl
  · show Res.ok (D.bl (id (decide (i = i)))) h = _
    rw [decide_eq_true rfl]
    rfl
/-- one exception caught: what the suite does -/
theorem try_ok {mt : Str → Option Bool} {body : Fs} {suite : Nat → Fs} {a0 a1 a2 a3 a4 a5 a6 a7 : Option D} {h h1 h2 : Hd} {e : Exn} (q : body [a0, a1, a2, a3, a4, a5, a6, a7] h = .ex e [a0, a1, a2, a3, a4, a5, a6, a7] h1) (m : mt e.c = some true)
    (s : ∀ n, suite n [a0, a1, a2, a3, a4, a5, a6, some (.exc n e.c e.f e.v)] h1 = .nx [a0, a1, a2, a3, a4, a5, a6, some (.exc n e.c e.f e.v)] h2) : sTryAs 7 mt body suite [a0, a1, a2, a3, a4, a5, a6, a7] h = .nx [a0, a1, a2, a3, a4, a5, a6, none] h2 := by
  unfold sTryAs
  rw [q]
  dsimp only
  rw [m]
  dsimp only
  rw [show ([a0, a1, a2, a3, a4, a5, a6, a7] : En).set 7 (some (.exc (fresh [a0, a1, a2, a3, a4, a5, a6, a7] h1 e) e.c e.f e.v)) = [a0, a1, a2, a3, a4, a5, a6, some (.exc (fresh [a0, a1, a2, a3, a4, a5, a6, a7] h1 e) e.c e.f e.v)] from rfl, s]
  rfl
theorem suite_place {a0 a1 a3 a4 a6 : Option D} {cr k n : Nat} {cl : Str} {pl : D} {h : Hd} (hp : Plc pl) (hk : k < 1000) (c : Ct cr k h) :
    sExpr (eMeth "list" mAppend (eVar 2) (aCons (eOp gEq (eFld n "place" [cl] (eVar 7)) (eVar 5)) aNil)) [a0, a1, some (.ref cr), a3, a4, some pl, a6, some (.exc n cl "place" pl)] h = .nx [a0, a1, some (.ref cr), a3, a4, some pl, a6, some (.exc n cl "place" pl)] (h.set cr (.lst (List.replicate (k + 1) (.bl true)))) := by
  refine expr_ok (d := .non) ((meth_ok (n := cr) (ds := [.bl true]) (h2 := h) rfl c (cons_ok ((op_ok (x := pl) (y := pl) ?_ rfl).trans (eq_plc hp)) rfl)).trans (ct_add hk c))
  unfold eFld
  show (if (n == n && (("place" : Str) == "place" && [cl].contains cl)) = true then Res.ok pl h else .no) = _
  rw [if_pos (by simp)]
end Lw

set_option Elab.async false
set_option linter.all false
set_option maxRecDepth 100000
set_option maxHeartbeats 1000000
namespace Lw
open PySem PySem.Spec PyProof.Rows L2 Mi
abbrev suF : Nat → Fs := fun n_ => sExpr (eMeth "list" mAppend (eVar 2) (aCons (eOp gEq (eFld n_ "place" ["BadFrieze"] (eVar 7)) (eVar 5)) aNil))
noncomputable abbrev inF : Fs := sFor (iOf (eTup (aCons (eC (.gl "need_quiddity")) (aCons (eC (.gl "frieze_of")) (aCons (eC (.gl "is_closed")) (aCons (eC (.gl "is_whole_frieze")) (aCons (eC (.gl "trace_of")) aNil))))))) (gSet 6) (sTryAs 7 mt_BadFrieze (sExpr (eCallV 6 [("need_quiddity", s_need_quiddity), ("frieze_of", s_frieze_of), ("is_closed", s_is_closed), ("is_whole_frieze", s_is_whole_frieze), ("trace_of", s_trace_of)] (aCons (eVar 4) aNil))) suF)
noncomputable abbrev enF : Fs := sTryAs 7 mt_BadFrieze (sExpr (eCall s_entry_of (aCons (eVar 4) (aCons (eC .non) (aCons (eC .non) aNil))))) suF
def names5 : List D := [.gl "need_quiddity", .gl "frieze_of", .gl "is_closed", .gl "is_whole_frieze", .gl "trace_of"]
/-- what a caught exception leaves -/
theorem caught {body : Fs} {a0 a1 a3 a6 : Option D} {cr k : Nat} {d pl : D} {h h1 : Hd} (hp : Plc pl) (hk : k < 1000) (c : Ct cr k h) (kp : Kp [] h h1)
    (q : body [a0, a1, some (.ref cr), a3, some d, some pl, a6, none] h = .ex (bfz pl) [a0, a1, some (.ref cr), a3, some d, some pl, a6, none] h1) :
    ∃ h', sTryAs 7 mt_BadFrieze body suF [a0, a1, some (.ref cr), a3, some d, some pl, a6, none] h = .nx [a0, a1, some (.ref cr), a3, some d, some pl, a6, none] h' ∧ Ct cr (k + 1) h' ∧ Kp [cr] h h' := by
  have c1 : Ct cr k h1 := kp.at_ _ _ (by simp) c
  refine ⟨h1.set cr (.lst (List.replicate (k + 1) (.bl true))), try_ok q rfl (fun n => suite_place hp hk c1), ct_set c1, (kp.mono (by simp)).trans (Kp.set (by simp))⟩
theorem in_ok {a0 a1 a3 a6 : Option D} {cr k : Nat} {d pl : D} {h : Hd} (hk : k < 900) (c : Ct cr k h) (r : ∀ h1, Kp [cr] h h1 → Ref 3 d pl h1) :
    ∃ h' a6', inF [a0, a1, some (.ref cr), a3, some d, some pl, a6, none] h = .nx [a0, a1, some (.ref cr), a3, some d, some pl, a6', none] h' ∧ Ct cr (k + 5) h' ∧ Kp [cr] h h' := by
  have hp : Plc pl := (r h Kp.refl).1
  have key := for_inv (src := fixS names5) (tg := gSet 6) (body := sTryAs 7 mt_BadFrieze (sExpr (eCallV 6 [("need_quiddity", s_need_quiddity), ("frieze_of", s_frieze_of), ("is_closed", s_is_closed), ("is_whole_frieze", s_is_whole_frieze), ("trace_of", s_trace_of)] (aCons (eVar 4) aNil))) suF)
    (env := [a0, a1, some (.ref cr), a3, some d, some pl, a6, none]) (h := h) 5 (fun i => names5.getD i .non) (fun i env h1 => (∃ a6', env = [a0, a1, some (.ref cr), a3, some d, some pl, a6', none]) ∧ Ct cr (k + i) h1 ∧ Kp [cr] h h1)
    ⟨⟨a6, rfl⟩, c, Kp.refl⟩ ?_ ?_ (by rw [most_eq]; decide)
  · obtain ⟨env', h', e, ⟨a6', rfl⟩, c', kp⟩ := key
    refine ⟨h', a6', ?_, c', kp⟩
    show sFor _ _ _ _ _ = _
    rw [sFor_ok (src := fixS names5) (h1 := h) rfl]
    exact e
  · rintro i env h1 hi ⟨⟨a6', rfl⟩, c1, kp1⟩
    refine ⟨fix_item (xs := names5) hi, ?_⟩
    have rr := r h1 kp1
    obtain ⟨f1, f2, f3, f4, f5⟩ := deed_ref rr
    have f0 := needQ_ref rr
    have go : ∀ (x : Str), sExpr (eCallV 6 [("need_quiddity", s_need_quiddity), ("frieze_of", s_frieze_of), ("is_closed", s_is_closed), ("is_whole_frieze", s_is_whole_frieze), ("trace_of", s_trace_of)] (aCons (eVar 4) aNil)) [a0, a1, some (.ref cr), a3, some d, some pl, some (.gl x), none] h1 = .ex (bfz pl) [a0, a1, some (.ref cr), a3, some d, some pl, some (.gl x), none] (h1 ++ [.lst [pl], .lst []]) →
        ∃ env' h', stepS (gSet 6) (sTryAs 7 mt_BadFrieze (sExpr (eCallV 6 [("need_quiddity", s_need_quiddity), ("frieze_of", s_frieze_of), ("is_closed", s_is_closed), ("is_whole_frieze", s_is_whole_frieze), ("trace_of", s_trace_of)] (aCons (eVar 4) aNil))) suF) (.gl x) [a0, a1, some (.ref cr), a3, some d, some pl, a6', none] h1 = .nx env' h' ∧ (∃ a6', env' = [a0, a1, some (.ref cr), a3, some d, some pl, a6', none]) ∧ Ct cr (k + (i + 1)) h' ∧ Kp [cr] h h' := fun x q => by
      obtain ⟨h', e, c2, kp2⟩ := caught hp (by omega) c1 Kp.app q
      refine ⟨_, h', ?_, ⟨some (.gl x), rfl⟩, c2, kp1.trans kp2⟩
      show (match sTryAs 7 mt_BadFrieze _ suF [a0, a1, some (.ref cr), a3, some d, some pl, some (.gl x), none] h1 with
        | .ct env2 h2 => SRes.nx env2 h2
        | r => r) = _
      rw [e]
    have hi' : i = 0 ∨ i = 1 ∨ i = 2 ∨ i = 3 ∨ i = 4 := by omega
    rcases hi' with rfl | rfl | rfl | rfl | rfl
    · exact go "need_quiddity" (expr_ex f0)
    · exact go "frieze_of" (expr_ex f1)
    · exact go "is_closed" (expr_ex f2)
    · exact go "is_whole_frieze" (expr_ex f3)
    · exact go "trace_of" (expr_ex f4)
  · rintro env h1 _
    exact fix_stop (xs := names5)
def items (lr : Nat) : List (D × D) := [(.non, .non), (.tup [.int 1, .int 1], .non), (.tup (List.replicate 25 (.int 1)), .non), (.ref lr, .non), (.tup [.int 1, .non, .int 1], .int 1), (.tup [.int 1, .int 1, .bl true], .int 2), (.tup [.int 1001, .int 1, .int 1], .int 0), (.tup [.int 1, .int (-1001), .int 1], .int 1)]
theorem items_ref {lr cr : Nat} {h : Hd} {l : List D} (hl : h[lr]? = some (.lst l)) (hc : lr ≠ cr) (i : Nat) (hi : i < 8) (h1 : Hd) (kp : Kp [cr] h h1) : Ref 3 ((items lr).getD i (.non, .non)).1 ((items lr).getD i (.non, .non)).2 h1 := by
  have no : ∀ d, noRow 3 d h1 = true → Ref 3 d .non h1 := fun d hd => ⟨.inl rfl, wrong_no d 3 h1 hd⟩
  have gen : ∀ (ds : List D) (j : Int), (∀ d ∈ ds, plain d = true) → ds.length = 3 → badIx ds ds.length = [.int j] → Ref 3 (.tup ds) (.int j) h1 := fun ds j hd hl hb => by
    have := wrong_gen ds hd 3 (by omega) (by omega) h1
    rw [hb] at this
    exact ⟨.inr ⟨j, rfl⟩, this⟩
  have hi' : i = 0 ∨ i = 1 ∨ i = 2 ∨ i = 3 ∨ i = 4 ∨ i = 5 ∨ i = 6 ∨ i = 7 := by omega
  rcases hi' with rfl | rfl | rfl | rfl | rfl | rfl | rfl | rfl
  · exact no _ rfl
  · exact no _ rfl
  · exact no _ rfl
  · refine no _ ?_
    show (match h1[lr]? with
      | some (.lst _) => true
      | _ => false) = true
    rw [kp.at_ _ _ (by simpa using hc) hl]
  · exact gen _ _ (by simp [plain]) rfl rfl
  · exact gen _ _ (by simp [plain]) rfl rfl
  · exact gen _ _ (by simp [plain]) rfl rfl
  · exact gen _ _ (by simp [plain]) rfl rfl
theorem loopA {a0 a1 a3 : Option D} {cr lr it : Nat} {h : Hd} {l : List D} (c : Ct cr 0 h) (hl : h[lr]? = some (.lst l)) (hc : lr ≠ cr) (hit : h[it]? = some (.lst ((items lr).map fun p => .tup [p.1, p.2]))) (hic : it ≠ cr) :
    ∃ h' b p a6, forL (liveS it) (gUnp 2 (gsCons (gSet 4) (gsCons (gSet 5) gsNil))) (sSeq inF enF) most 0 [a0, a1, some (.ref cr), a3, none, none, none, none] h = .nx [a0, a1, some (.ref cr), a3, b, p, a6, none] h' ∧ Ct cr 48 h' ∧ Kp [cr] h h' := by
  have key := for_inv (src := liveS it) (tg := gUnp 2 (gsCons (gSet 4) (gsCons (gSet 5) gsNil))) (body := sSeq inF enF) (env := [a0, a1, some (.ref cr), a3, none, none, none, none]) (h := h) 8 (fun i => .tup [((items lr).getD i (.non, .non)).1, ((items lr).getD i (.non, .non)).2])
    (fun i env h1 => (∃ b p a6, env = [a0, a1, some (.ref cr), a3, b, p, a6, none]) ∧ Ct cr (6 * i) h1 ∧ Kp [cr] h h1) ⟨⟨none, none, none, rfl⟩, c, Kp.refl⟩ ?_ ?_ (by rw [most_eq]; decide)
  · obtain ⟨env', h', e, ⟨b, p, a6, rfl⟩, c', kp⟩ := key
    exact ⟨h', b, p, a6, e, c', kp⟩
  · rintro i env h1 hi ⟨⟨b, p, a6, rfl⟩, c1, kp1⟩
    refine ⟨?_, ?_⟩
    · rw [live_item (.inl (kp1.at_ _ _ (by simpa using hic) hit)) (by simpa [items] using hi)]
      congr 1
      have hi' : i = 0 ∨ i = 1 ∨ i = 2 ∨ i = 3 ∨ i = 4 ∨ i = 5 ∨ i = 6 ∨ i = 7 := by omega
      rcases hi' with rfl | rfl | rfl | rfl | rfl | rfl | rfl | rfl <;> rfl
    · have rf : ∀ h2, Kp [cr] h1 h2 → Ref 3 ((items lr).getD i (.non, .non)).1 ((items lr).getD i (.non, .non)).2 h2 := fun h2 kp2 => items_ref hl hc i hi h2 (kp1.trans kp2)
      generalize ((items lr).getD i (.non, .non)).1 = d at *
      generalize ((items lr).getD i (.non, .non)).2 = pl at *
      obtain ⟨h2, a6', e2, c2, kp2⟩ := in_ok (a0 := a0) (a1 := a1) (a3 := a3) (a6 := a6) (by omega) c1 rf
      obtain ⟨h3, e3, c3, kp3⟩ := caught (a0 := a0) (a1 := a1) (a3 := a3) (a6 := a6') (d := d) (rf h2 kp2).1 (by omega) c2 (h1 := h2 ++ [.lst [pl], .lst []]) Kp.app (body := sExpr (eCall s_entry_of (aCons (eVar 4) (aCons (eC .non) (aCons (eC .non) aNil))))) (expr_ex ((call_ok (ds := [d, .non, .non]) rfl).trans (deed_ref (rf h2 kp2)).2.2.2.2))
      refine ⟨_, h3, ?_, ⟨some d, some pl, a6', rfl⟩, c3, (kp1.trans kp2).trans kp3⟩
      show (match sSeq inF enF [a0, a1, some (.ref cr), a3, some d, some pl, a6, none] h1 with
        | .ct env2 h2 => SRes.nx env2 h2
        | r => r) = _
      rw [seq_nx e2]
      have e3' : enF [a0, a1, some (.ref cr), a3, some d, some pl, a6', none] h2 = .nx [a0, a1, some (.ref cr), a3, some d, some pl, a6', none] h3 := e3
      rw [e3']
  · rintro env h1 ⟨_, _, kp1⟩
    exact live_stop (xs := (items lr).map fun p => D.tup [p.1, p.2]) (.inl (kp1.at_ _ _ (by simpa using hic) hit))
/-! ### numbers refused -/
abbrev suN : Nat → Fs := fun n_ => sExpr (eMeth "list" mAppend (eVar 2) (aCons (eOp gEq (eCall gRepr (aCons (eFld n_ "value" ["BadNumber"] (eVar 7)) aNil)) (eCall gRepr (aCons (eVar 4) aNil))) aNil))
def bnm (b : D) : Exn := ⟨"BadNumber", "value", b⟩
theorem suite_value {a0 a1 a3 a5 a6 : Option D} {cr k n : Nat} {b : D} {p : PyData} {h : Hd} (hp : toP maxP h b = some p) (ok : repOk p = true) (hk : k < 1000) (c : Ct cr k h) :
    suN n [a0, a1, some (.ref cr), a3, some b, a5, a6, some (.exc n "BadNumber" "value" b)] h = .nx [a0, a1, some (.ref cr), a3, some b, a5, a6, some (.exc n "BadNumber" "value" b)] (h.set cr (.lst (List.replicate (k + 1) (.bl true)))) := by
  have f1 : eFld n "value" ["BadNumber"] (eVar 7) [a0, a1, some (.ref cr), a3, some b, a5, a6, some (.exc n "BadNumber" "value" b)] h = .ok b h := by
    unfold eFld
    show (if (n == n && (("value" : Str) == "value" && ([("BadNumber" : Str)]).contains "BadNumber")) = true then Res.ok b h else .no) = _
    rw [if_pos (by simp)]
  refine expr_ok (d := .non) ((meth_ok (n := cr) (ds := [.bl true]) (h2 := h) rfl c (cons_ok ((op_ok ((call_ok (cons_ok f1 rfl)).trans (repr_ok hp ok)) ((call_ok (ds := [b]) rfl).trans (repr_ok hp ok))).trans ?_) rfl)).trans (ct_add hk c))
  show Res.ok (D.bl (id (decide (p.shown = p.shown)))) h = _
  rw [decide_eq_true rfl]
  rfl
theorem caughtN {body : Fs} {a0 a1 a3 a5 a6 : Option D} {cr k : Nat} {b : D} {p : PyData} {h h1 : Hd} (hp : toP maxP h1 b = some p) (ok : repOk p = true) (hk : k < 1000) (c : Ct cr k h) (kp : Kp [] h h1)
    (q : body [a0, a1, some (.ref cr), a3, some b, a5, a6, none] h = .ex (bnm b) [a0, a1, some (.ref cr), a3, some b, a5, a6, none] h1) :
    ∃ h', sTryAs 7 mt_BadNumber body suN [a0, a1, some (.ref cr), a3, some b, a5, a6, none] h = .nx [a0, a1, some (.ref cr), a3, some b, a5, a6, none] h' ∧ Ct cr (k + 1) h' ∧ Kp [cr] h h' := by
  have c1 : Ct cr k h1 := kp.at_ _ _ (by simp) c
  refine ⟨h1.set cr (.lst (List.replicate (k + 1) (.bl true))), try_ok q rfl (fun n => suite_value hp ok hk c1), ct_set c1, (kp.mono (by simp)).trans (Kp.set (by simp))⟩
theorem entry_bad1 {xs : List Int} (g : Good xs) {b o : D} {h : Hd} (hb : ∀ h, s_is_whole [b, .int 0, .int ((xs.length : Int) - 1)] h = .ok (.bl false) h) : s_entry_of [tI xs, b, o] h = .ex (bnm b) (h ++ [.lst [], .lst []]) := by
  have b1 : b_entry_of_1 [some (tI xs), some b, some o] (h ++ [.lst [], .lst []]) = .ex (bnm b) [some (tI xs), some b, some o] (h ++ [.lst [], .lst []]) := by
    have := hb (h ++ [.lst [], .lst []])
    simp [b_entry_of_1, tI, this, bnm]
  exact run_ex [some (tI xs), some b, some o] ((seq_nx (expr_ok ((call_ok (ds := [tI xs]) rfl).trans (g.nq h)))).trans (seq_ex b1))
theorem entry_bad2 {xs : List Int} (g : Good xs) {b : D} {h : Hd} (hb : ∀ h, s_is_whole [b, .int 1, .int (1 + (xs.length : Int))] h = .ok (.bl false) h) : s_entry_of [tI xs, .int 1, b] h = .ex (bnm b) (h ++ [.lst [], .lst []]) := by
  have hl := g.lo
  have i1 : s_is_whole [.int 1, .int 0, .int ((xs.length : Int) - 1)] (h ++ [.lst [], .lst []]) = .ok (.bl true) (h ++ [.lst [], .lst []]) := by
    rw [is_whole_int, decide_eq_true (by omega), decide_eq_true (by omega)]
    rfl
  have b1 : b_entry_of_1 [some (tI xs), some (.int 1), some b] (h ++ [.lst [], .lst []]) = .nx [some (tI xs), some (.int 1), some b] (h ++ [.lst [], .lst []]) := by
    simp [b_entry_of_1, tI, i1]
  have b2 : b_entry_of_2 [some (tI xs), some (.int 1), some b] (h ++ [.lst [], .lst []]) = .ex (bnm b) [some (tI xs), some (.int 1), some b] (h ++ [.lst [], .lst []]) := by
    have := hb (h ++ [.lst [], .lst []])
    simp [b_entry_of_2, tI, this, bnm]
  exact run_ex [some (tI xs), some (.int 1), some b] ((seq_nx (expr_ok ((call_ok (ds := [tI xs]) rfl).trans (g.nq h)))).trans ((seq_nx b1).trans (seq_ex b2)))
/-- a loop over four bad numbers -/
theorem loopN {a0 a1 a3 a5 a6 a4 : Option D} {body : Fs} {bs : List D} {cr k : Nat} {h : Hd} (hb : bs.length = 4) (hk : k < 900) (c : Ct cr k h)
    (hq : ∀ b ∈ bs, (∃ p, (∀ h, toP maxP h b = some p) ∧ repOk p = true) ∧ ∀ h1, body [a0, a1, some (.ref cr), a3, some b, a5, a6, none] h1 = .ex (bnm b) [a0, a1, some (.ref cr), a3, some b, a5, a6, none] (h1 ++ [.lst [], .lst []])) :
    ∃ h' b', forL (fixS bs) (gSet 4) (sTryAs 7 mt_BadNumber body suN) most 0 [a0, a1, some (.ref cr), a3, a4, a5, a6, none] h = .nx [a0, a1, some (.ref cr), a3, b', a5, a6, none] h' ∧ Ct cr (k + 4) h' ∧ Kp [cr] h h' := by
  have key := for_inv (src := fixS bs) (tg := gSet 4) (body := sTryAs 7 mt_BadNumber body suN) (env := [a0, a1, some (.ref cr), a3, a4, a5, a6, none]) (h := h) 4 (fun i => bs.getD i .non) (fun i env h1 => (∃ b', env = [a0, a1, some (.ref cr), a3, b', a5, a6, none]) ∧ Ct cr (k + i) h1 ∧ Kp [cr] h h1)
    ⟨⟨a4, rfl⟩, c, Kp.refl⟩ ?_ ?_ (by rw [most_eq]; decide)
  · obtain ⟨env', h', e, ⟨b', rfl⟩, c', kp⟩ := key
    exact ⟨h', b', e, c', kp⟩
  · rintro i env h1 hi ⟨⟨b', rfl⟩, c1, kp1⟩
    refine ⟨fix_item (by omega), ?_⟩
    have hm : bs.getD i .non ∈ bs := by
      rw [List.getD_eq_getElem?_getD, List.getElem?_eq_getElem (by omega)]
      exact List.getElem_mem (by omega)
    obtain ⟨⟨p, hp, ok⟩, q⟩ := hq _ hm
    generalize bs.getD i .non = b at *
    obtain ⟨h', e, c2, kp2⟩ := caughtN (hp _) ok (by omega) c1 Kp.app (q h1)
    refine ⟨_, h', ?_, ⟨some b, rfl⟩, c2, kp1.trans kp2⟩
    show (match sTryAs 7 mt_BadNumber body suN [a0, a1, some (.ref cr), a3, some b, a5, a6, none] h1 with
      | .ct env2 h2 => SRes.nx env2 h2
      | r => r) = _
    rw [e]
  · rintro env h1 _
    have := fix_stop (xs := bs) (h := h1)
    rwa [hb] at this

/-! ### rows refused -/
abbrev suR : Nat → Fs := fun n_ => sExpr (eMeth "list" mAppend (eVar 2) (aCons (eOp gEq (eFld n_ "place" ["BadRow"] (eVar 7)) (eVar 5)) aNil))
noncomputable abbrev coF : Fs := sTryAs 7 mt_BadRow (sExpr (eCall s_continuant (aCons (eVar 4) aNil))) suR
def itemsR (lr : Nat) : List (D × D) := [(.non, .non), (.tup (List.replicate 25 (.int 0)), .non), (.ref lr, .non), (.tup [.int 1, .str "1"], .int 1), (.tup [.int 1001], .int 0)]
theorem itemsR_ref {lr cr : Nat} {h : Hd} {l : List D} (hl : h[lr]? = some (.lst l)) (hc : lr ≠ cr) (i : Nat) (hi : i < 5) (h1 : Hd) (kp : Kp [cr] h h1) : Ref 0 ((itemsR lr).getD i (.non, .non)).1 ((itemsR lr).getD i (.non, .non)).2 h1 := by
  have no : ∀ d, noRow 0 d h1 = true → Ref 0 d .non h1 := fun d hd => ⟨.inl rfl, wrong_no d 0 h1 hd⟩
  have gen : ∀ (ds : List D) (j : Int), (∀ d ∈ ds, plain d = true) → ds.length ≤ 3 → badIx ds ds.length = [.int j] → Ref 0 (.tup ds) (.int j) h1 := fun ds j hd hl hb => by
    have := wrong_gen ds hd 0 (by omega) (by omega) h1
    rw [hb] at this
    exact ⟨.inr ⟨j, rfl⟩, this⟩
  have hi' : i = 0 ∨ i = 1 ∨ i = 2 ∨ i = 3 ∨ i = 4 := by omega
  rcases hi' with rfl | rfl | rfl | rfl | rfl
  · exact no _ rfl
  · exact no _ rfl
  · refine no _ ?_
    show (match h1[lr]? with
      | some (.lst _) => true
      | _ => false) = true
    rw [kp.at_ _ _ (by simpa using hc) hl]
  · exact gen _ _ (by simp [plain]) (by decide) rfl
  · exact gen _ _ (by simp [plain]) (by decide) rfl
theorem suite_row {a0 a1 a3 a4 a6 : Option D} {cr k n : Nat} {pl : D} {h : Hd} (hp : Plc pl) (hk : k < 1000) (c : Ct cr k h) :
    suR n [a0, a1, some (.ref cr), a3, a4, some pl, a6, some (.exc n "BadRow" "place" pl)] h = .nx [a0, a1, some (.ref cr), a3, a4, some pl, a6, some (.exc n "BadRow" "place" pl)] (h.set cr (.lst (List.replicate (k + 1) (.bl true)))) := suite_place hp hk c
theorem loopR {a0 a1 a3 a4 a5 a6 : Option D} {cr lr k : Nat} {h : Hd} {l : List D} (hk : k < 900) (c : Ct cr k h) (hl : h[lr]? = some (.lst l)) (hc : lr ≠ cr) :
    ∃ h' b p, forL (fixS ((itemsR lr).map fun p => .tup [p.1, p.2])) (gUnp 2 (gsCons (gSet 4) (gsCons (gSet 5) gsNil))) coF most 0 [a0, a1, some (.ref cr), a3, a4, a5, a6, none] h = .nx [a0, a1, some (.ref cr), a3, b, p, a6, none] h' ∧ Ct cr (k + 5) h' ∧ Kp [cr] h h' := by
  have key := for_inv (src := fixS ((itemsR lr).map fun p => .tup [p.1, p.2])) (tg := gUnp 2 (gsCons (gSet 4) (gsCons (gSet 5) gsNil))) (body := coF) (env := [a0, a1, some (.ref cr), a3, a4, a5, a6, none]) (h := h) 5 (fun i => .tup [((itemsR lr).getD i (.non, .non)).1, ((itemsR lr).getD i (.non, .non)).2])
    (fun i env h1 => (∃ b p, env = [a0, a1, some (.ref cr), a3, b, p, a6, none]) ∧ Ct cr (k + i) h1 ∧ Kp [cr] h h1) ⟨⟨a4, a5, rfl⟩, c, Kp.refl⟩ ?_ ?_ (by rw [most_eq]; decide)
  · obtain ⟨env', h', e, ⟨b, p, rfl⟩, c', kp⟩ := key
    exact ⟨h', b, p, e, c', kp⟩
  · rintro i env h1 hi ⟨⟨b, p, rfl⟩, c1, kp1⟩
    refine ⟨?_, ?_⟩
    · rw [fix_item (by simpa [itemsR] using hi)]
      congr 1
      have hi' : i = 0 ∨ i = 1 ∨ i = 2 ∨ i = 3 ∨ i = 4 := by omega
      rcases hi' with rfl | rfl | rfl | rfl | rfl <;> rfl
    · have rf := itemsR_ref hl hc i hi h1 kp1
      generalize ((itemsR lr).getD i (.non, .non)).1 = d at *
      generalize ((itemsR lr).getD i (.non, .non)).2 = pl at *
      have c2 : Ct cr (k + i) (h1 ++ [.lst [pl], .lst []]) := app_old c1
      have e3 : coF [a0, a1, some (.ref cr), a3, some d, some pl, a6, none] h1 = .nx [a0, a1, some (.ref cr), a3, some d, some pl, a6, none] ((h1 ++ [Ob.lst [pl], .lst []]).set cr (.lst (List.replicate (k + i + 1) (.bl true)))) :=
        try_ok (e := ⟨"BadRow", "place", pl⟩) (expr_ex ((call_ok (ds := [d]) rfl).trans (cont_ref rf))) rfl (fun n => suite_row rf.1 (by omega) c2)
      refine ⟨_, _, ?_, ⟨some d, some pl, rfl⟩, ct_set c2, (kp1.trans Kp.app).trans (Kp.set (by simp))⟩
      show (match coF [a0, a1, some (.ref cr), a3, some d, some pl, a6, none] h1 with
        | .ct env2 h2 => SRes.nx env2 h2
        | r => r) = _
      rw [e3]
      rfl
  · rintro env h1 _
    exact fix_stop (xs := (itemsR lr).map fun p => D.tup [p.1, p.2])
theorem toP_rep {h : Hd} {r k : Nat} (e : h[r]? = some (.lst (List.replicate k (.bl true)))) : toP maxP h (.ref r) = some (.list (List.replicate k (.bool true))) := by
  show (match h[r]? with
    | some (.lst xs) => (xs.mapM (toP 23 h)).map PyData.list
    | some (.fro xs) => (xs.mapM (toP 23 h)).map PyData.list
    | _ => none) = _
  rw [e]
  have := toP_map (f := fun _ : Nat => D.bl true) (g := fun _ => PyData.bool true) (n := 23) (h := h) (List.range k) fun _ _ => rfl
  rw [List.map_const', List.map_const', List.length_range] at this
  show ((List.replicate k (D.bl true)).mapM (toP 23 h)).map PyData.list = _
  rw [this]
  rfl
theorem repN {b : D} {p : PyData} (h : ∀ h, toP maxP h b = some p) (ok : repOk p = true) : ∃ p, (∀ h, toP maxP h b = some p) ∧ repOk p = true := ⟨p, h, ok⟩
theorem repOk_int {i : Int} (h : i.natAbs < 1000) : repOk (.int i) = true :=
  repOk_of (by
    have : i.natAbs.log2 < 1920 := log_lt (Nat.lt_of_lt_of_le h (by exact Nat.le_trans (by decide : 1000 ≤ 2 ^ 10) (Nat.pow_le_pow_right (by decide) (by decide)))) (by decide)
    simpa [PyData.showable] using this) (by simp [PyData.hasDict]) (by simp [PyData.depth]) (by simp [nod])
theorem refused_ok {xs : List Int} (g : Good xs) (h : Hd) : ∃ h', s__law_refused [tI xs, .int (xs.length : Nat)] h = .ok (.bl true) h' ∧ Kp [] h h' := by
  have hl := g.lo
  have hh := g.hi
  let cr := h.length
  let g0 := h ++ [Ob.lst []]
  let g1 := g0 ++ [Ob.lst [.int 1, .int 1, .int 1]]
  let lr := g0.length
  let six : List D := ((items lr).take 6).map fun p => .tup [p.1, p.2]
  let two : List D := ((items lr).drop 6).map fun p => .tup [p.1, p.2]
  let g2 := g1 ++ [Ob.lst six]
  let g3 := g2 ++ [Ob.lst two]
  let g4 := g3 ++ [Ob.lst (six ++ two)]
  have hlr : lr ≠ cr := by show (h ++ [Ob.lst []]).length ≠ h.length; simp
  let M : D := .int (xs.length : Nat)
  have b0 : b__law_refused_0 [some (tI xs), some M, none, none, none, none, none, none] h = .nx [some (tI xs), some M, some (.ref cr), none, none, none, none, none] g0 := rfl
  have b1 : b__law_refused_1 [some (tI xs), some M, some (.ref cr), none, none, none, none, none] g0 = .nx [some (tI xs), some M, some (.ref cr), some (.ref g1.length), none, none, none, none] g2 := rfl
  have c0 : Ct cr 0 g4 := by
    show (((((h ++ [Ob.lst []]) ++ _) ++ _) ++ _) ++ _)[h.length]? = _
    exact app_old (app_old (app_old (app_old (by rw [app_at0]; rfl))))
  have q6 : g2[g1.length]? = some (.lst six) := by show (g1 ++ _)[g1.length]? = _; rw [app_at0]; rfl
  have qlr : g4[lr]? = some (.lst [.int 1, .int 1, .int 1]) := by
    show ((((g0 ++ _) ++ _) ++ _) ++ _)[g0.length]? = _
    exact app_old (app_old (app_old (by rw [app_at0]; rfl)))
  have it1 : iOf (eOp gAdd (eVar 3) (eLst (aCons (eTup (aCons (eTup (aCons (eC (.int 1001)) (aCons (eC (.int 1)) (aCons (eC (.int 1)) aNil)))) (aCons (eC (.int 0)) aNil))) (aCons (eTup (aCons (eTup (aCons (eC (.int 1)) (aCons (eUn gNeg (eC (.int 1001))) (aCons (eC (.int 1)) aNil)))) (aCons (eC (.int 1)) aNil))) aNil)))) [some (tI xs), some M, some (.ref cr), some (.ref g1.length), none, none, none, none] g2 = .ok (liveS g3.length) g4 := by
    have a2 : eLst (aCons (eTup (aCons (eTup (aCons (eC (.int 1001)) (aCons (eC (.int 1)) (aCons (eC (.int 1)) aNil)))) (aCons (eC (.int 0)) aNil))) (aCons (eTup (aCons (eTup (aCons (eC (.int 1)) (aCons (eUn gNeg (eC (.int 1001))) (aCons (eC (.int 1)) aNil)))) (aCons (eC (.int 1)) aNil))) aNil)) [some (tI xs), some M, some (.ref cr), some (.ref g1.length), none, none, none, none] g2 = .ok (.ref g2.length) g3 := rfl
    have a3 : gAdd (.ref g1.length) (.ref g2.length) g3 = .ok (.ref g3.length) g4 := by
      unfold gAdd
      dsimp only
      rw [show g3[g1.length]? = some (.lst six) from app_old q6, show g3[g2.length]? = some (.lst two) by show (g2 ++ _)[g2.length]? = _; rw [app_at0]; rfl]
      rfl
    have a4 : eOp gAdd (eVar 3) (eLst (aCons (eTup (aCons (eTup (aCons (eC (.int 1001)) (aCons (eC (.int 1)) (aCons (eC (.int 1)) aNil)))) (aCons (eC (.int 0)) aNil))) (aCons (eTup (aCons (eTup (aCons (eC (.int 1)) (aCons (eUn gNeg (eC (.int 1001))) (aCons (eC (.int 1)) aNil)))) (aCons (eC (.int 1)) aNil))) aNil))) [some (tI xs), some M, some (.ref cr), some (.ref g1.length), none, none, none, none] g2 = .ok (.ref g3.length) g4 := (op_ok (x := .ref g1.length) rfl a2).trans a3
    show (eOp gAdd _ _ _ _).bind walk1 = _
    rw [a4]
    show walk1 (.ref g3.length) g4 = _
    unfold walk1
    dsimp only
    rw [show g4[g3.length]? = some (.lst (six ++ two)) by show (g3 ++ _)[g3.length]? = _; rw [app_at0]; rfl]
  have hit : g4[g3.length]? = some (.lst ((items lr).map fun p => .tup [p.1, p.2])) := by
    show (g3 ++ _)[g3.length]? = _
    rw [app_at0]
    rfl
  have hic : g3.length ≠ cr := by
    show ((((h ++ _) ++ _) ++ _) ++ _).length ≠ h.length
    simp
  obtain ⟨h5, b, p, a6, e5, c5, kp5⟩ := loopA (a0 := some (tI xs)) (a1 := some M) (a3 := some (.ref g1.length)) c0 qlr hlr hit hic
  have b2 : b__law_refused_2 [some (tI xs), some M, some (.ref cr), some (.ref g1.length), none, none, none, none] g2 = .nx [some (tI xs), some M, some (.ref cr), some (.ref g1.length), b, p, a6, none] h5 := by
    unfold b__law_refused_2
    rw [sFor_ok it1]
    exact e5
  -- numbers
  obtain ⟨h6, b6, e6, c6, kp6⟩ := loopN (a0 := some (tI xs)) (a1 := some M) (a3 := some (.ref g1.length)) (a5 := p) (a6 := a6) (a4 := b) (body := sExpr (eCall s_entry_of (aCons (eVar 0) (aCons (eVar 4) (aCons (eC .non) aNil))))) (bs := [.int (-1), M, .non, .bl true]) (h := h5) rfl (by decide) c5 (by
    intro d hd
    simp only [List.mem_cons, List.mem_nil_iff, or_false] at hd
    rcases hd with rfl | rfl | rfl | rfl
    · exact ⟨repN (fun _ => rfl) (repOk_int (by decide)), fun h1 => expr_ex ((call_ok (ds := [tI xs, .int (-1), .non]) rfl).trans (entry_bad1 g fun h => by rw [is_whole_int, decide_eq_false (by omega)]; rfl))⟩
    · exact ⟨repN (fun _ => rfl) (repOk_int (by omega)), fun h1 => expr_ex ((call_ok (ds := [tI xs, M, .non]) rfl).trans (entry_bad1 g fun h => by rw [is_whole_int, decide_eq_false (show ¬ ((xs.length : Nat) : Int) ≤ (xs.length : Int) - 1 by omega), Bool.and_false]))⟩
    · exact ⟨repN (fun _ => rfl) (by decide), fun h1 => expr_ex ((call_ok (ds := [tI xs, .non, .non]) rfl).trans (entry_bad1 g fun h => is_whole_non _ _ h))⟩
    · exact ⟨repN (fun _ => rfl) (by decide), fun h1 => expr_ex ((call_ok (ds := [tI xs, .bl true, .non]) rfl).trans (entry_bad1 g fun h => is_whole_bl _ _ _ h))⟩)
  have b3 : b__law_refused_3 [some (tI xs), some M, some (.ref cr), some (.ref g1.length), b, p, a6, none] h5 = .nx [some (tI xs), some M, some (.ref cr), some (.ref g1.length), b6, p, a6, none] h6 := by
    unfold b__law_refused_3
    rw [sFor_ok (src := fixS [.int (-1), M, .non, .bl true]) (h1 := h5) rfl]
    exact e6
  obtain ⟨h7, b7, e7, c7, kp7⟩ := loopN (a0 := some (tI xs)) (a1 := some M) (a3 := some (.ref g1.length)) (a5 := p) (a6 := a6) (a4 := b6) (body := sExpr (eCall s_entry_of (aCons (eVar 0) (aCons (eC (.int 1)) (aCons (eVar 4) aNil))))) (bs := [.int 0, .int (2 + (xs.length : Nat)), .non, .str "1"]) (h := h6) rfl (by decide) c6 (by
    intro d hd
    simp only [List.mem_cons, List.mem_nil_iff, or_false] at hd
    rcases hd with rfl | rfl | rfl | rfl
    · exact ⟨repN (fun _ => rfl) (repOk_int (by decide)), fun h1 => expr_ex ((call_ok (ds := [tI xs, .int 1, .int 0]) rfl).trans (entry_bad2 g fun h => by rw [is_whole_int, decide_eq_false (by omega)]; rfl))⟩
    · exact ⟨repN (fun _ => rfl) (repOk_int (by omega)), fun h1 => expr_ex ((call_ok (ds := [tI xs, .int 1, .int (2 + (xs.length : Nat))]) rfl).trans (entry_bad2 g fun h => by rw [is_whole_int, decide_eq_false (show ¬ (2 + ((xs.length : Nat) : Int)) ≤ 1 + (xs.length : Int) by omega), Bool.and_false]))⟩
    · exact ⟨repN (fun _ => rfl) (by decide), fun h1 => expr_ex ((call_ok (ds := [tI xs, .int 1, .non]) rfl).trans (entry_bad2 g fun h => is_whole_non _ _ h))⟩
    · exact ⟨repN (fun _ => rfl) (by decide +kernel), fun h1 => expr_ex ((call_ok (ds := [tI xs, .int 1, .str "1"]) rfl).trans (entry_bad2 g fun h => is_whole_str _ _ _ h))⟩)
  have b4 : b__law_refused_4 [some (tI xs), some M, some (.ref cr), some (.ref g1.length), b6, p, a6, none] h6 = .nx [some (tI xs), some M, some (.ref cr), some (.ref g1.length), b7, p, a6, none] h7 := by
    unfold b__law_refused_4
    rw [sFor_ok (src := fixS [.int 0, .int (2 + (xs.length : Nat)), .non, .str "1"]) (h1 := h6) rfl]
    exact e7
  -- rows
  let h8 := h7 ++ [Ob.lst [.int 1]]
  have hcr7 : cr < h7.length := (List.getElem?_eq_some_iff.mp c7).1
  have c8 : Ct cr (48 + 4 + 4) h8 := app_old c7
  obtain ⟨h9, b9, p9, e9, c9, kp9⟩ := loopR (a0 := some (tI xs)) (a1 := some M) (a3 := some (.ref g1.length)) (a4 := b7) (a5 := p) (a6 := a6) (lr := h7.length) (l := [.int 1]) (h := h8) (by decide) c8 (by show (h7 ++ _)[h7.length]? = _; rw [app_at0]; rfl) (by omega)
  have b5 : b__law_refused_5 [some (tI xs), some M, some (.ref cr), some (.ref g1.length), b7, p, a6, none] h7 = .nx [some (tI xs), some M, some (.ref cr), some (.ref g1.length), b9, p9, a6, none] h9 := by
    unfold b__law_refused_5
    rw [sFor_ok (src := fixS ((itemsR h7.length).map fun p => .tup [p.1, p.2])) (h1 := h8) rfl]
    exact e9
  -- the end
  have gq : Good [1000, -1000, 0] := ⟨by intro x hx; simp only [List.mem_cons, List.mem_nil_iff, or_false] at hx; omega, by decide, by decide⟩
  let g5 := h9 ++ [Ob.lst [.bl true]]
  let g6 := g5 ++ [Ob.lst (List.replicate 61 (.bl true))]
  have q1 : eOp gMul (eLst (aCons (eC (.bl true)) aNil)) (eC (.int 61)) [some (tI xs), some M, some (.ref cr), some (.ref g1.length), b9, p9, a6, none] h9 = .ok (.ref g5.length) g6 := by
    refine (op_ok (x := .ref h9.length) (y := .int 61) (h2 := g5) rfl rfl).trans ?_
    unfold gMul
    dsimp only
    rw [show g5[h9.length]? = some (.lst [.bl true]) by show (h9 ++ _)[h9.length]? = _; rw [app_at0]; rfl]
    dsimp only
    rw [rng_small (by decide) (by decide)]
    rfl
  have q2 : eOp gEq (eVar 2) (eOp gMul (eLst (aCons (eC (.bl true)) aNil)) (eC (.int 61))) [some (tI xs), some M, some (.ref cr), some (.ref g1.length), b9, p9, a6, none] h9 = .ok (.bl true) g6 := by
    refine (op_ok (x := .ref cr) rfl q1).trans ?_
    have t1 : toP maxP g6 (.ref cr) = some (.list (List.replicate 61 (.bool true))) := toP_rep (app_old (app_old c9))
    have t2 : toP maxP g6 (.ref g5.length) = some (.list (List.replicate 61 (.bool true))) := toP_rep (by show (g5 ++ _)[g5.length]? = _; rw [app_at0]; rfl)
    show eqB (.ref cr) (.ref g5.length) g6 id = _
    rw [eqB_ref, deep_ok t1 t2 (by decide) (by decide)]
    rfl
  have q3 : eOp gIs (eCall s_need_quiddity (aCons (eTup (aCons (eC (.int 1000)) (aCons (eUn gNeg (eC (.int 1000))) (aCons (eC (.int 0)) aNil)))) aNil)) (eC .non) [some (tI xs), some M, some (.ref cr), some (.ref g1.length), b9, p9, a6, none] g6 = .ok (.bl true) (g6 ++ [.lst [], .lst []]) := by
    refine (op_ok ((call_ok (ds := [tI [1000, -1000, 0]]) rfl).trans (gq.nq g6)) rfl).trans ?_
    rfl
  have b6' : b__law_refused_6 [some (tI xs), some M, some (.ref cr), some (.ref g1.length), b9, p9, a6, none] h9 = .rt (.bl true) (g6 ++ [.lst [], .lst []]) := by
    unfold b__law_refused_6
    refine ret_ok ?_
    show (eOp gEq _ _ _ h9).bind _ = _
    rw [q2]
    exact q3
  refine ⟨g6 ++ [.lst [], .lst []], run_rt [some (tI xs), some M, none, none, none, none, none, none] ((seq_nx b0).trans ((seq_nx b1).trans ((seq_nx b2).trans ((seq_nx b3).trans ((seq_nx b4).trans ((seq_nx b5).trans b6')))))), ?_⟩
  have kA : Kp [cr] g4 (g6 ++ [Ob.lst [], .lst []]) := ((((((kp5.trans kp6).trans kp7).trans Kp.app).trans kp9).trans Kp.app).trans Kp.app).trans Kp.app
  have kB : Kp [] h g4 := (((Kp.app.trans Kp.app).trans Kp.app).trans Kp.app).trans Kp.app
  refine ⟨Nat.le_trans kB.len kA.len, fun i o hi e => kA.at_ i o ?_ (kB.at_ i o hi e)⟩
  have : i < h.length := (List.getElem?_eq_some_iff.mp e).1
  intro z
  simp only [List.mem_singleton] at z
  omega
end Lw

set_option Elab.async false
set_option linter.all false
set_option maxRecDepth 100000
set_option maxHeartbeats 2000000
namespace Lw
open PySem PySem.Spec PyProof.Rows L2 Mi
/-! ### how large -/
theorem E_bd {xs : List Int} (hs : Sm xs) (h0 : 0 < xs.length) (s : Nat) : ∀ j, (Fz.E xs s j).natAbs ≤ 1001 ^ j ∧ (Fz.E xs s (j + 1)).natAbs ≤ 1001 ^ (j + 1)
  | 0 => ⟨by show (0 : Int).natAbs ≤ 1; decide, by show (1 : Int).natAbs ≤ 1001; decide⟩
  | j + 1 => by
    obtain ⟨h1, h2⟩ := E_bd hs h0 s j
    refine ⟨h2, ?_⟩
    have e : Fz.E xs s (j + 1 + 1) = Fz.at_ xs (s + j + 1) * Fz.E xs s (j + 1) - Fz.E xs s j := rfl
    have hx : -1000 ≤ Fz.at_ xs (s + j + 1) ∧ Fz.at_ xs (s + j + 1) ≤ 1000 := sm_at hs (Nat.mod_lt _ h0)
    have hx2 : (Fz.at_ xs (s + j + 1)).natAbs ≤ 1000 := by omega
    rw [e]
    refine Nat.le_trans (Int.natAbs_sub_le _ _) ?_
    rw [Int.natAbs_mul]
    have m1 := Nat.mul_le_mul hx2 h2
    have m2 : 1001 ^ (j + 1 + 1) = 1000 * 1001 ^ (j + 1) + 1001 ^ (j + 1) := by rw [Nat.pow_succ 1001 (j + 1)]; omega
    have m3 : 1001 ^ j ≤ 1001 ^ (j + 1) := Nat.pow_le_pow_right (by decide) (by omega)
    omega
theorem E_log {xs : List Int} (g : Good xs) (s j : Nat) (hj : j ≤ 11) : (Fz.E xs s j).natAbs.log2 < 200 := by
  refine log_lt (Nat.lt_of_le_of_lt (E_bd g.sm g.pos s j).1 ?_) (by decide)
  exact Nat.lt_of_le_of_lt (Nat.pow_le_pow_right (by decide) hj) (by decide)
/-! ### lists of lines as data -/
def dls (L : List (List Int)) : List D := L.map fun l => .tup (l.map .int)
theorem toP_dls {n : Nat} {h : Hd} (L : List (List Int)) : (dls L).mapM (toP (n + 2) h) = some (L.map fun l => .tuple (l.map .int)) := toP_map L fun l _ => toP_tup
theorem toP_tls {n : Nat} {h : Hd} (L : List (List Int)) : toP (n + 3) h (.tup (dls L)) = some (.tuple (L.map fun l => .tuple (l.map .int))) := by
  show ((dls L).mapM (toP (n + 2) h)).map PyData.tuple = _
  rw [toP_dls]
  rfl
theorem toP_lls {n r : Nat} {h : Hd} {L : List (List Int)} (e : h[r]? = some (.lst (dls L))) : toP (n + 3) h (.ref r) = some (.list (L.map fun l => .tuple (l.map .int))) := by
  show (match h[r]? with
    | some (.lst xs) => (xs.mapM (toP (n + 2) h)).map PyData.list
    | some (.fro xs) => (xs.mapM (toP (n + 2) h)).map PyData.list
    | _ => none) = _
  rw [e]
  show ((dls L).mapM (toP (n + 2) h)).map PyData.list = _
  rw [toP_dls]
  rfl
theorem sh_lls (L : List (List Int)) : SeqAt.shaped (.list (L.map fun l => .tuple (l.map .int))) = true := by
  unfold SeqAt.shaped
  rw [PyData.canLay0, lay_lists, PyData.depth, decide_eq_true (by have := dep_lists L; omega)]
  rfl
theorem sh_tls (L : List (List Int)) : SeqAt.shaped (.tuple (L.map fun l => .tuple (l.map .int))) = true := by
  unfold SeqAt.shaped
  rw [PyData.canLay0, lay_lists, PyData.depth, decide_eq_true (by have := dep_lists L; omega)]
  rfl
theorem eq_lls {r t : Nat} {h : Hd} {L M : List (List Int)} {k : Bool → Bool} (e : h[r]? = some (.lst (dls L))) (e2 : h[t]? = some (.lst (dls M))) : eqB (.ref r) (.ref t) h k = .ok (.bl (k (decide (L = M)))) h := by
  rw [eqB_ref, deep_ok (toP_lls (n := 21) e) (toP_lls (n := 21) e2) (sh_lls L) (sh_lls M), PyData.eqv, eqv_lists]
theorem eq_tls {h : Hd} {L M : List (List Int)} {k : Bool → Bool} : eqB (.tup (dls L)) (.tup (dls M)) h k = .ok (.bl (k (decide (L = M)))) h := by
  rw [eqB_tup, deep_ok (toP_tls (n := 21) L) (toP_tls (n := 21) M) (sh_tls L) (sh_tls M), PyData.eqv, eqv_lists]
theorem sh_ints : ∀ l : List Int, (∀ x ∈ l, x.natAbs.log2 < 1920) → PyData.showableAll (l.map .int) = true
  | [], _ => rfl
  | a :: l, h => by
    rw [List.map_cons, PyData.showableAll, sh_ints l fun x hx => h x (List.mem_cons_of_mem _ hx), PyData.showable, decide_eq_true (h a (List.mem_cons_self ..))]
    rfl
theorem sh_lists : ∀ L : List (List Int), (∀ l ∈ L, ∀ x ∈ l, x.natAbs.log2 < 1920) → PyData.showableAll (L.map fun l => .tuple (l.map .int)) = true
  | [], _ => rfl
  | a :: l, h => by
    rw [List.map_cons, PyData.showableAll, sh_lists l fun x hx => h x (List.mem_cons_of_mem _ hx), PyData.showable, sh_ints a (h a (List.mem_cons_self ..))]
    rfl
theorem nd_ints : ∀ l : List Int, nods (l.map .int) = l.length ∧ PyData.hasDictAll (l.map .int) = false
  | [] => ⟨rfl, rfl⟩
  | a :: l => by
    obtain ⟨h1, h2⟩ := nd_ints l
    rw [List.map_cons, nods, h1, PyData.hasDictAll, h2, nod, PyData.hasDict, List.length_cons]
    exact ⟨by omega, rfl⟩
theorem nd_lists : ∀ (L : List (List Int)) (m : Nat), (∀ l ∈ L, l.length ≤ m) → nods (L.map fun l => .tuple (l.map .int)) ≤ L.length * (m + 1) ∧ PyData.hasDictAll (L.map fun l => .tuple (l.map .int)) = false
  | [], _, _ => ⟨Nat.zero_le _, rfl⟩
  | a :: l, m, h => by
    obtain ⟨h1, h2⟩ := nd_lists l m fun x hx => h x (List.mem_cons_of_mem _ hx)
    obtain ⟨k1, k2⟩ := nd_ints a
    have := h a (List.mem_cons_self ..)
    rw [List.map_cons, nods, PyData.hasDictAll, h2, nod, PyData.hasDict, k1, k2, List.length_cons, Nat.succ_mul]
    exact ⟨by omega, rfl⟩
def duL (xs : List Int) : List (List Int) := (List.range xs.length).map fun j => ln xs j (xs.length + 1)
theorem due_eq (xs : List Int) : due xs = .tup (dls (duL xs)) := by
  unfold due dls duL
  rw [List.map_map]
  congr 1
  refine List.map_congr_left fun j _ => ?_
  rw [lnD_eq]
  rfl
theorem du_rep {xs : List Int} (g : Good xs) : repOk (.tuple ((duL xs).map fun l => .tuple (l.map .int))) = true := by
  have hh := g.hi
  have ml : ∀ l ∈ duL xs, l.length ≤ 10 ∧ ∀ x ∈ l, x.natAbs.log2 < 1920 := fun l hl => by
    obtain ⟨j, _, rfl⟩ := List.mem_map.mp hl
    refine ⟨by rw [ln_len]; omega, fun x hx => ?_⟩
    obtain ⟨t, ht, rfl⟩ := List.mem_map.mp hx
    exact Nat.lt_of_lt_of_le (E_log g j t (by have := List.mem_range.mp ht; omega)) (by decide)
  obtain ⟨n1, n2⟩ := nd_lists (duL xs) 10 fun l hl => (ml l hl).1
  have dl : (duL xs).length = xs.length := by simp [duL]
  refine repOk_of ?_ ?_ ?_ ?_
  · rw [PyData.showable]; exact sh_lists _ fun l hl => (ml l hl).2
  · rw [PyData.hasDict]; exact n2
  · rw [PyData.depth]; have := dep_lists (duL xs); omega
  · rw [nod]; rw [dl] at n1; omega
/-! ### tests -/
theorem or_ff {f t : Ft} {env : En} {h h1 h2 : Hd} {b : Bool} (e : f env h = .ok false h1) (e2 : t env h1 = .ok b h2) : tOrD f t env h = .ok b h2 := by
  show (f env h).bind _ = _
  rw [e]
  exact e2
theorem if_ff {c : Ft} {f : Fs} {env : En} {h h' : Hd} (e : c env h = .ok false h') : sIf c f sNil env h = .nx env h' := by
  rw [if_ok e, if_neg (by decide)]
  rfl
/-- the table of the wheel as it is made -/
abbrev ev (s : Nat) (xs : List Int) (m3 m4 m5 m6 m7 m8 m9 m10 m11 m12 m13 m14 m15 m16 m17 m18 : Option D) : En := [some (.ref s), some (tI xs), some (.int (xs.length : Nat)), m3, m4, m5, m6, m7, m8, m9, m10, m11, m12, m13, m14, m15, m16, m17, m18, none]
theorem comp_due {xs : List Int} (g : Good xs) (s j : Nat) (hj : j < xs.length) (m3 : Option D) (h : Hd) : ∃ h', eLc (iRng1D (aCons (eOp gAdd (eVar 2) (eC (.int 1))) aNil)) (gSet 18) tYesD (eCall s__law_between (aCons (eVar 1) (aCons (eVar 4) (aCons (eOp gAdd (eVar 4) (eVar 18)) aNil)))) [18] (ev s xs m3 (some (.int (j : Nat))) none none none none none none none none none none none none none none) h = .ok (.ref h.length) h' ∧ h'[h.length]? = some (.lst ((ln xs j (xs.length + 1)).map .int)) ∧ Kp [] h h' := by
  have hh := g.hi
  have key := lc_inv (src := rngS 0 (xs.length + 1) 1) (tg := gSet 18) (tst := tYesD) (el := eCall s__law_between (aCons (eVar 1) (aCons (eVar 4) (aCons (eOp gAdd (eVar 4) (eVar 18)) aNil)))) (env := ev s xs m3 (some (.int (j : Nat))) none none none none none none none none none none none none none none) (h := h) (xs.length + 1) (fun i => .int (0 + (i : Nat) * 1))
    (fun i h1 acc => Kp [] h h1 ∧ acc = (ln xs j i).map .int) ⟨Kp.app, rfl⟩ ?_ ?_ (by omega)
  · obtain ⟨h', acc, e, e1, _, kp, rfl⟩ := key
    refine ⟨h', ?_, e1, kp⟩
    rw [eLc_ok (rng1_ok (j := ((xs.length : Nat) : Int) + 1) (h1 := h) rfl (rng_small (by omega) (by omega))), show (((xs.length : Nat) : Int) + 1).toNat = xs.length + 1 by omega]
    exact e
  · rintro i h1 acc hi ⟨kp, rfl⟩ ha
    obtain ⟨g', e'⟩ := law_between_ok g j i (by omega) (by omega) (j : Nat) (((j : Nat) : Int) + (0 + (i : Nat) * 1)) rfl (by omega) h1
    refine ⟨rng_item hi, [.int (Fz.E xs j i)], h1 ++ g', ?_, app_old ha, (kp.trans Kp.app).setNew (Nat.le_refl _), ?_⟩
    · show (match eCall s__law_between _ (ev s xs m3 (some (.int (j : Nat))) none none none none none none none none none none none none none (some (.int (0 + (i : Nat) * 1)))) h1 with
        | .ok y h3 => Res.ok [y] h3
        | _ => .no) = _
      rw [(call_ok (ds := [tI xs, .int (j : Nat), .int (((j : Nat) : Int) + (0 + (i : Nat) * 1))]) rfl).trans e']
    · unfold ln
      rw [List.range_succ, List.map_append, List.map_append]
      rfl
  · rintro h1 acc _ _
    exact rng_stop
theorem right2 {xs : List Int} (g : Good xs) (s : Nat) (h : Hd) : ∃ h' v, b__law_right_2 (ev s xs (some (.ref h.length)) none none none none none none none none none none none none none none none) (h ++ [.lst []]) = .nx (ev s xs (some (.ref h.length)) v none none none none none none none none none none none none none none) h' ∧ h'[h.length]? = some (.lst (dls (duL xs))) ∧ Kp [] h h' := by
  have hh := g.hi
  have key := for_inv (src := rngS 0 xs.length 1) (tg := gSet 4) (body := sExpr (eMeth "list" mAppend (eVar 3) (aCons (eCall gTuple (aCons (eLc (iRng1D (aCons (eOp gAdd (eVar 2) (eC (.int 1))) aNil)) (gSet 18) tYesD (eCall s__law_between (aCons (eVar 1) (aCons (eVar 4) (aCons (eOp gAdd (eVar 4) (eVar 18)) aNil)))) [18]) aNil)) aNil)))
    (env := ev s xs (some (.ref h.length)) none none none none none none none none none none none none none none none) (h := h ++ [.lst []]) xs.length (fun i => .int (0 + (i : Nat) * 1))
    (fun i env h1 => (∃ v, env = ev s xs (some (.ref h.length)) v none none none none none none none none none none none none none none) ∧ h1[h.length]? = some (.lst (dls ((List.range i).map fun j => ln xs j (xs.length + 1)))) ∧ Kp [] h h1) ⟨⟨none, rfl⟩, by rw [app_at0]; rfl, Kp.app⟩ ?_ ?_ (by rw [most_eq]; omega)
  · obtain ⟨env', h', e, ⟨v, rfl⟩, q, kp⟩ := key
    refine ⟨h', v, ?_, q, kp⟩
    unfold b__law_right_2
    rw [sFor_ok (rng1_ok (j := ((xs.length : Nat) : Int)) (h1 := h ++ [.lst []]) rfl (rng_small (by omega) (by omega))), Int.toNat_natCast]
    exact e
  · rintro i env h1 hi ⟨⟨v, rfl⟩, q, kp⟩
    refine ⟨rng_item hi, ?_⟩
    rw [show (0 + (i : Nat) * 1 : Int) = ((i : Nat) : Int) by omega]
    obtain ⟨h2, e2, q2, kp2⟩ := comp_due g s i hi (some (.ref h.length)) h1
    have q3 : h2[h.length]? = some (.lst (dls ((List.range i).map fun j => ln xs j (xs.length + 1)))) := kp2.at_ _ _ (by simp) q
    have hr2 : h.length < h2.length := (List.getElem?_eq_some_iff.mp q3).1
    have t1 : eCall gTuple (aCons (eLc (iRng1D (aCons (eOp gAdd (eVar 2) (eC (.int 1))) aNil)) (gSet 18) tYesD (eCall s__law_between (aCons (eVar 1) (aCons (eVar 4) (aCons (eOp gAdd (eVar 4) (eVar 18)) aNil)))) [18]) aNil) (ev s xs (some (.ref h.length)) (some (.int (i : Nat))) none none none none none none none none none none none none none none) h1 = .ok (.tup ((ln xs i (xs.length + 1)).map .int)) h2 := by
      refine (call_ok (cons_ok e2 rfl)).trans ?_
      unfold gTuple
      dsimp only [seqD]
      rw [q2]
    have dl : dls ((List.range (i + 1)).map fun j => ln xs j (xs.length + 1)) = dls ((List.range i).map fun j => ln xs j (xs.length + 1)) ++ [.tup ((ln xs i (xs.length + 1)).map .int)] := by
      unfold dls
      rw [List.range_succ, List.map_append, List.map_append]
      rfl
    refine ⟨ev s xs (some (.ref h.length)) (some (.int (i : Nat))) none none none none none none none none none none none none none none, h2.set h.length (.lst (dls ((List.range (i + 1)).map fun j => ln xs j (xs.length + 1)))), ?_, ⟨some (.int (i : Nat)), rfl⟩, List.getElem?_set_self hr2, (kp.trans kp2).setNew (Nat.le_refl _)⟩
    have m1 : mAppend (.ref h.length) [.tup ((ln xs i (xs.length + 1)).map .int)] h2 = .ok .non (h2.set h.length (.lst (dls ((List.range (i + 1)).map fun j => ln xs j (xs.length + 1))))) := by
      unfold mAppend
      dsimp only
      rw [q3]
      dsimp only
      rw [if_pos (by simp [dls]; omega), dl]
    have w : sExpr (eMeth "list" mAppend (eVar 3) (aCons (eCall gTuple (aCons (eLc (iRng1D (aCons (eOp gAdd (eVar 2) (eC (.int 1))) aNil)) (gSet 18) tYesD (eCall s__law_between (aCons (eVar 1) (aCons (eVar 4) (aCons (eOp gAdd (eVar 4) (eVar 18)) aNil)))) [18]) aNil)) aNil)) (ev s xs (some (.ref h.length)) (some (.int (i : Nat))) none none none none none none none none none none none none none none) h1 = .nx (ev s xs (some (.ref h.length)) (some (.int (i : Nat))) none none none none none none none none none none none none none none) (h2.set h.length (.lst (dls ((List.range (i + 1)).map fun j => ln xs j (xs.length + 1))))) :=
      expr_ok (d := .non) ((meth_ok (n := h.length) rfl q (cons_ok t1 rfl)).trans m1)
    show (match sExpr _ (ev s xs (some (.ref h.length)) (some (.int (i : Nat))) none none none none none none none none none none none none none none) h1 with
      | .ct env2 h2 => SRes.nx env2 h2
      | r => r) = _
    rw [w]
  · rintro env h1 _
    exact rng_stop
end Lw

set_option Elab.async false
set_option linter.all false
set_option maxRecDepth 100000
set_option maxHeartbeats 2000000
namespace Lw
open PySem PySem.Spec PyProof.Rows L2 Mi
/-- the env behind the making of due -/
abbrev e3 (s : Nat) (xs : List Int) (dr : Nat) (v m5 m6 m7 m8 m9 m10 : Option D) : En := ev s xs (some (.ref dr)) v m5 m6 m7 m8 m9 m10 none none none none none none none none
def Du (xs : List Int) (dr : Nat) (h : Hd) : Prop := h[dr]? = some (.lst (dls (duL xs)))
theorem Du.keep {xs : List Int} {dr : Nat} {h h' : Hd} (d : Du xs dr h) (k : Kp [] h h') : Du xs dr h' := k.at_ _ _ (by simp) d
theorem tup_due {xs : List Int} {dr : Nat} {h : Hd} (d : Du xs dr h) : gTuple [.ref dr] h = .ok (due xs) h := by
  unfold gTuple
  dsimp only [seqD]
  rw [show h[dr]? = some (.lst (dls (duL xs))) from d, due_eq]
theorem right3 {xs : List Int} (g : Good xs) (s dr : Nat) (v : Option D) (h : Hd) (d : Du xs dr h) : ∃ h', b__law_right_3 (e3 s xs dr v none none none none none none) h = .nx (e3 s xs dr v none none none none none none) h' ∧ Kp [] h h' := by
  obtain ⟨h2, e2, kp2⟩ := frieze_of_ok g (h ++ [.lst [], .lst []])
  have d2 : Du xs dr h2 := (d.keep Kp.app).keep kp2
  refine ⟨h2, ?_, Kp.app.trans kp2⟩
  have t1 : tOf (eOp gIsNot (eCall s_need_quiddity (aCons (eVar 1) aNil)) (eC .non)) (e3 s xs dr v none none none none none none) h = .ok false (h ++ [.lst [], .lst []]) := tOf_ok ((op_ok ((call_ok (ds := [tI xs]) rfl).trans (g.nq h)) rfl).trans rfl)
  have r1 : ∀ h, gRepr [due xs] h = .ok (.str (PyData.tuple ((duL xs).map fun l => .tuple (l.map .int))).shown) h := fun h => repr_ok (by rw [due_eq]; exact toP_tls (n := 21) (duL xs)) (du_rep g)
  have t2 : tOf (eOp gNe (eCall gRepr (aCons (eCall s_frieze_of (aCons (eVar 1) aNil)) aNil)) (eCall gRepr (aCons (eCall gTuple (aCons (eVar 3) aNil)) aNil))) (e3 s xs dr v none none none none none none) (h ++ [.lst [], .lst []]) = .ok false h2 := by
    refine tOf_ok ((op_ok ((call_ok (cons_ok ((call_ok (ds := [tI xs]) rfl).trans e2) rfl)).trans (r1 h2)) ((call_ok (cons_ok ((call_ok (ds := [.ref dr]) rfl).trans (tup_due d2)) rfl)).trans (r1 h2))).trans ?_)
    show Res.ok (D.bl (!decide (_ = _))) h2 = _
    rw [decide_eq_true rfl]
    rfl
  unfold b__law_right_3
  exact if_ff (or_ff t1 t2)
theorem right4 {xs : List Int} (g : Good xs) (s dr : Nat) (v : Option D) (h : Hd) (d : Du xs dr h) : ∃ h', b__law_right_4 (e3 s xs dr v none none none none none none) h = .nx (e3 s xs dr v none none none none none none) h' ∧ Kp [] h h' := by
  obtain ⟨h2, e2, kp2⟩ := frieze_of_ok g h
  refine ⟨h2, ?_, kp2⟩
  have t2 : tOf (eOp gNe (eCallK s_frieze_of (fun ds ws => gI [0] ds ws) aNil (aCons (eVar 1) aNil)) (eCall gTuple (aCons (eVar 3) aNil))) (e3 s xs dr v none none none none none none) h = .ok false h2 := by
    refine tOf_ok ((op_ok ((callK_ok (ds := []) (ws := [tI xs]) rfl rfl).trans e2) ((call_ok (ds := [.ref dr]) rfl).trans (tup_due (d.keep kp2)))).trans ?_)
    rw [due_eq]
    show eqB (.tup (dls (duL xs))) (.tup (dls (duL xs))) h2 not = _
    rw [eq_tls, decide_eq_true rfl]
    rfl
  unfold b__law_right_4
  exact if_ff t2
/-- the lines that are kept by a test -/
def keepL (xs : List Int) (p : Nat → Bool) : Nat → List (List Int)
  | 0 => []
  | i + 1 => keepL xs p i ++ (if p i = true then [ln xs i (xs.length + 1)] else [])
theorem keepL_nil (xs : List Int) (p : Nat → Bool) : ∀ n, keepL xs p n = [] ↔ ∀ j, j < n → p j = false
  | 0 => ⟨fun _ j hj => absurd hj (Nat.not_lt_zero _), fun _ => rfl⟩
  | n + 1 => by
    have ih := keepL_nil xs p n
    unfold keepL
    constructor
    · intro h j hj
      rw [List.append_eq_nil_iff] at h
      by_cases hjn : j < n
      · exact ih.mp h.1 j hjn
      · have : j = n := by omega
        subst this
        cases hp : p j with
        | false => rfl
        | true => rw [hp] at h; simp at h
    · intro h
      rw [ih.mpr fun j hj => h j (by omega), h n (by omega)]
      rfl
theorem comp_keep {xs : List Int} (g : Good xs) (dr : Nat) (tst : Ft) (p : Nat → Bool) (env : En) (h : Hd) (d : Du xs dr h) (hl : 16 < env.length) (henv : env.set 16 none = env)
    (ht : ∀ j h1, j < xs.length → ∃ h2, tst (env.set 16 (some (.tup ((ln xs j (xs.length + 1)).map .int)))) h1 = .ok (p j) h2 ∧ Kp [] h1 h2) :
    ∃ h', lcL (liveS dr) (gSet 16) tst (eVar 16) env h.length most 0 (h ++ [.lst []]) = .ok (.ref h.length) h' ∧ h'[h.length]? = some (.lst (dls (keepL xs p xs.length))) ∧ Kp [] h h' := by
  have hh := g.hi
  have key := lc_inv (src := liveS dr) (tg := gSet 16) (tst := tst) (el := eVar 16) (env := env) (h := h) xs.length (fun i => .tup ((ln xs i (xs.length + 1)).map .int)) (fun i h1 acc => Kp [] h h1 ∧ acc = dls (keepL xs p i)) ⟨Kp.app, rfl⟩ ?_ ?_ (by omega)
  · obtain ⟨h', acc, e, e1, _, kp, rfl⟩ := key
    exact ⟨h', e, e1, kp⟩
  · rintro i h1 acc hi ⟨kp, rfl⟩ ha
    obtain ⟨h2, e2, kp2⟩ := ht i h1 hi
    have d1 : Du xs dr h1 := d.keep kp
    refine ⟨?_, (if p i = true then [.tup ((ln xs i (xs.length + 1)).map .int)] else []), h2, ?_, kp2.at_ _ _ (by simp) ha, (kp.trans kp2).setNew (Nat.le_refl _), ?_⟩
    · rw [live_item (.inl d1) (by simp [dls, duL]; exact hi)]
      congr 1
      refine getD_some ?_
      unfold dls duL
      rw [List.getElem?_map, List.getElem?_map, List.getElem?_range hi]
      rfl
    · unfold turnC gSet
      rw [if_pos hl]
      dsimp only
      rw [e2]
      cases p i with
      | false => rfl
      | true =>
        dsimp only
        unfold eVar
        rw [List.getElem?_set_self hl]
        rfl
    · show _ = dls (keepL xs p i ++ _)
      unfold dls
      rw [List.map_append]
      cases p i <;> rfl
  · rintro h1 acc ⟨kp, _⟩ _
    have := live_stop (h := h1) (.inl (show h1[dr]? = some (.lst (dls (duL xs))) from d.keep kp))
    have l : (dls (duL xs)).length = xs.length := by simp [dls, duL]
    rwa [l] at this
theorem nil_test {xs : List Int} {p : Nat → Bool} {r : Nat} {h : Hd} (e : h[r]? = some (.lst (dls (keepL xs p xs.length)))) : eqB (.ref r) (.ref h.length) (h ++ [.lst []]) id = .ok (.bl (decide (∀ j, j < xs.length → p j = false))) (h ++ [.lst []]) := by
  rw [eq_lls (M := []) (app_old e) (by rw [app_at0]; rfl)]
  congr 2
  show id (decide _) = _
  rw [Bool.eq_iff_iff]
  show decide _ = true ↔ _
  rw [decide_eq_true_eq, decide_eq_true_eq]
  exact keepL_nil xs p _
theorem cut_endT (xs : List Int) (j : Nat) (hn : 1 ≤ xs.length) : Mi.cutD ((ln xs j (xs.length + 1)).map D.int) (some (-2)) none = [.int (Fz.E xs j (xs.length - 1)), .int (Fz.E xs j xs.length)] := by
  rw [← lnD_eq]
  exact cut_end xs j xs.length hn
theorem right5 {xs : List Int} (g : Good xs) (s dr : Nat) (v : Option D) (h : Hd) (d : Du xs dr h) : ∃ h', b__law_right_5 (e3 s xs dr v none none none none none none) h = .nx (e3 s xs dr v (some (.bl (decide (Fz.Cl xs)))) none none none none none) h' ∧ Kp [] h h' := by
  have hlo := g.lo
  let p : Nat → Bool := fun j => !decide ([Fz.E xs j (xs.length - 1), Fz.E xs j xs.length] = [1, 0])
  obtain ⟨h2, e2, q2, kp2⟩ := comp_keep g dr (tOf (eOp gNe (eSl (eVar 16) (oSome (eUn gNeg (eC (.int 2)))) oNone) (eTup (aCons (eC (.int 1)) (aCons (eC (.int 0)) aNil))))) p (e3 s xs dr v none none none none none none) h d (by simp) rfl (fun j h1 hj => ⟨h1, by
    have s1 : eSl (eVar 16) (oSome (eUn gNeg (eC (.int 2)))) oNone ((e3 s xs dr v none none none none none none).set 16 (some (.tup ((ln xs j (xs.length + 1)).map .int)))) h1 = .ok (.tup [.int (Fz.E xs j (xs.length - 1)), .int (Fz.E xs j xs.length)]) h1 := by
      show Res.ok (D.tup (Mi.cutD ((ln xs j (xs.length + 1)).map D.int) (some (-2)) none)) h1 = _
      rw [cut_endT xs j (by omega)]
    refine tOf_ok ((op_ok s1 (y := .tup [.int 1, .int 0]) rfl).trans ?_)
    exact eq_tups (l := [Fz.E xs j (xs.length - 1), Fz.E xs j xs.length]) (m := [1, 0]) (k := not), Kp.refl⟩)
  refine ⟨h2 ++ [.lst []], ?_, kp2.trans Kp.app⟩
  unfold b__law_right_5
  refine asg_ok (i := 5) ?_ (by simp)
  have iw : iOf (eVar 3) (e3 s xs dr v none none none none none none) h = .ok (liveS dr) h := by
    show walk1 (.ref dr) h = _
    unfold walk1
    dsimp only
    rw [show h[dr]? = some (.lst (dls (duL xs))) from d]
  refine (op_ok (x := .ref h.length) (y := .ref h2.length) (h2 := h2 ++ [.lst []]) ((eLc_ok iw).trans e2) rfl).trans ?_
  refine (nil_test q2).trans ?_
  congr 2
  rw [Bool.eq_iff_iff, decide_eq_true_eq, decide_eq_true_eq]
  constructor
  · intro hp one ho
    have := hp one ho
    simp only [p, Bool.not_eq_false', decide_eq_true_eq] at this
    simpa using this
  · intro c j hj
    obtain ⟨c1, c2⟩ := c j hj
    simp [p, c1, c2]
theorem right6 {xs : List Int} (g : Good xs) (s dr : Nat) (v : Option D) (h : Hd) (d : Du xs dr h) : ∃ h', b__law_right_6 (e3 s xs dr v (some (.bl (decide (Fz.Cl xs)))) none none none none none) h = .nx (e3 s xs dr v (some (.bl (decide (Fz.Cl xs)))) (some (.bl (decide (Fz.Cl xs ∧ Wh xs)))) none none none none) h' ∧ Kp [] h h' := by
  have hlo := g.lo
  by_cases hc : Fz.Cl xs
  · let p : Nat → Bool := fun j => decide (minL (mid xs j) < 1)
    obtain ⟨h2, e2, q2, kp2⟩ := comp_keep g dr (tOf (eOp gLt (eCall gMin (aCons (eSl (eVar 16) (oSome (eC (.int 1))) (oSome (eUn gNeg (eC (.int 1))))) aNil)) (eC (.int 1)))) p (e3 s xs dr v (some (.bl (decide (Fz.Cl xs)))) none none none none none) h d (by simp) rfl (fun j h1 hj => ⟨h1, by
      obtain ⟨a, t, ea⟩ := mid_ne xs j g.lo
      have s1 : eSl (eVar 16) (oSome (eC (.int 1))) (oSome (eUn gNeg (eC (.int 1)))) ((e3 s xs dr v (some (.bl (decide (Fz.Cl xs)))) none none none none none).set 16 (some (.tup ((ln xs j (xs.length + 1)).map .int)))) h1 = .ok (.tup ((mid xs j).map .int)) h1 := by
        show Res.ok (D.tup (Mi.cutD ((ln xs j (xs.length + 1)).map D.int) (some 1) (some (-1)))) h1 = _
        rw [← lnD_eq, cut_mid xs j xs.length rfl g.lo]
      have s2 : gMin [.tup ((mid xs j).map .int)] h1 = .ok (.int (minL (mid xs j))) h1 := by
        rw [ea]
        unfold gMin gMinMax
        dsimp only [seqD]
        rw [Mi.ints_map]
      exact tOf_ok ((op_ok ((call_ok (cons_ok s1 rfl)).trans s2) rfl).trans rfl), Kp.refl⟩)
    refine ⟨h2 ++ [.lst []], ?_, kp2.trans Kp.app⟩
    unfold b__law_right_6
    refine asg_ok (i := 6) ?_ (by simp)
    have iw : iOf (eVar 3) (e3 s xs dr v (some (.bl (decide (Fz.Cl xs)))) none none none none none) h = .ok (liveS dr) h := by
      show walk1 (.ref dr) h = _
      unfold walk1
      dsimp only
      rw [show h[dr]? = some (.lst (dls (duL xs))) from d]
    show (Res.ok (D.bl (decide (Fz.Cl xs))) h).bind _ = _
    rw [decide_eq_true hc]
    rw [decide_eq_true hc] at e2 iw
    refine (op_ok (x := .ref h.length) (y := .ref h2.length) (h2 := h2 ++ [.lst []]) ((eLc_ok iw).trans e2) rfl).trans ?_
    refine (nil_test q2).trans ?_
    congr 2
    rw [Bool.eq_iff_iff, decide_eq_true_eq, decide_eq_true_eq]
    constructor
    · intro hp
      refine ⟨hc, fun j hj => ?_⟩
      have := hp j hj
      simp only [p, decide_eq_false_iff_not] at this
      omega
    · intro w j hj
      have := w.2 j hj
      simp only [p, decide_eq_false_iff_not]
      omega
  · refine ⟨h, ?_, Kp.refl⟩
    unfold b__law_right_6
    refine asg_ok (i := 6) ?_ (by simp)
    show (Res.ok (D.bl (decide (Fz.Cl xs))) h).bind _ = _
    rw [decide_eq_false hc, decide_eq_false (fun z => hc z.1)]
    rfl
/-! ### two bools in a list -/
theorem toP_bb {r : Nat} {h : Hd} {a b : Bool} (e : h[r]? = some (.lst [.bl a, .bl b])) : toP maxP h (.ref r) = some (.list [.bool a, .bool b]) := by
  show (match h[r]? with
    | some (.lst xs) => (xs.mapM (toP 23 h)).map PyData.list
    | some (.fro xs) => (xs.mapM (toP 23 h)).map PyData.list
    | _ => none) = _
  rw [e]
  rfl
theorem rep_bb (a b : Bool) : repOk (.list [.bool a, .bool b]) = true := by cases a <;> cases b <;> decide +kernel
theorem right7 {xs : List Int} (g : Good xs) (s dr : Nat) (v : Option D) (h : Hd) : ∃ h', b__law_right_7 (e3 s xs dr v (some (.bl (decide (Fz.Cl xs)))) (some (.bl (decide (Fz.Cl xs ∧ Wh xs)))) none none none none) h = .nx (e3 s xs dr v (some (.bl (decide (Fz.Cl xs)))) (some (.bl (decide (Fz.Cl xs ∧ Wh xs)))) none none none none) h' ∧ Kp [] h h' := by
  obtain ⟨h1, e1, kp1⟩ := is_closed_ok g h
  obtain ⟨h2, e2, kp2⟩ := is_whole_frieze_ok g h1
  generalize decide (Fz.Cl xs) = a at *
  generalize decide (Fz.Cl xs ∧ Wh xs) = b at *
  let h3 := h2 ++ [Ob.lst [.bl a, .bl b]]
  let h4 := h3 ++ [Ob.lst [.bl a, .bl b]]
  have l1 : eLst (aCons (eCall s_is_closed (aCons (eVar 1) aNil)) (aCons (eCall s_is_whole_frieze (aCons (eVar 1) aNil)) aNil)) (e3 s xs dr v (some (.bl a)) (some (.bl b)) none none none none) h = .ok (.ref h2.length) h3 := by
    show (aCons _ _ _ h).bind _ = _
    rw [cons_ok ((call_ok (ds := [tI xs]) rfl).trans e1) (cons_ok ((call_ok (ds := [tI xs]) rfl).trans e2) rfl)]
    rfl
  have r1 : gRepr [.ref h2.length] h3 = .ok (.str (PyData.list [.bool a, .bool b]).shown) h3 := repr_ok (toP_bb (by show (h2 ++ _)[h2.length]? = _; rw [app_at0]; rfl)) (rep_bb a b)
  have r2 : gRepr [.ref h3.length] h4 = .ok (.str (PyData.list [.bool a, .bool b]).shown) h4 := repr_ok (toP_bb (by show (h3 ++ _)[h3.length]? = _; rw [app_at0]; rfl)) (rep_bb a b)
  refine ⟨h4, ?_, ((kp1.trans kp2).trans Kp.app).trans Kp.app⟩
  unfold b__law_right_7
  refine if_ff (tOf_ok ((op_ok ((call_ok (cons_ok l1 rfl)).trans r1) ((call_ok (cons_ok (h1 := h4) (x := .ref h3.length) rfl rfl)).trans r2)).trans ?_))
  show Res.ok (D.bl (!decide (_ = _))) h4 = _
  rw [decide_eq_true rfl]
  rfl
theorem right8 {xs : List Int} (g : Good xs) (s dr : Nat) (v : Option D) (h : Hd) : ∃ h', b__law_right_8 (e3 s xs dr v (some (.bl (decide (Fz.Cl xs)))) (some (.bl (decide (Fz.Cl xs ∧ Wh xs)))) none none none none) h = .nx (e3 s xs dr v (some (.bl (decide (Fz.Cl xs)))) (some (.bl (decide (Fz.Cl xs ∧ Wh xs)))) none none none none) h' ∧ Kp [] h h' := by
  obtain ⟨h1, e1, kp1⟩ := is_closed_ok g h
  obtain ⟨h2, e2, kp2⟩ := is_whole_frieze_ok g h1
  generalize decide (Fz.Cl xs) = a at *
  generalize decide (Fz.Cl xs ∧ Wh xs) = b at *
  let h3 := h2 ++ [Ob.lst [.bl a, .bl b]]
  let h4 := h3 ++ [Ob.lst [.bl a, .bl b]]
  have l1 : eLst (aCons (eCallK s_is_closed (fun ds ws => gI [0] ds ws) aNil (aCons (eVar 1) aNil)) (aCons (eCallK s_is_whole_frieze (fun ds ws => gI [0] ds ws) aNil (aCons (eVar 1) aNil)) aNil)) (e3 s xs dr v (some (.bl a)) (some (.bl b)) none none none none) h = .ok (.ref h2.length) h3 := by
    show (aCons _ _ _ h).bind _ = _
    rw [cons_ok ((callK_ok (ds := []) (ws := [tI xs]) rfl rfl).trans e1) (cons_ok ((callK_ok (ds := []) (ws := [tI xs]) rfl rfl).trans e2) rfl)]
    rfl
  refine ⟨h4, ?_, ((kp1.trans kp2).trans Kp.app).trans Kp.app⟩
  unfold b__law_right_8
  refine if_ff (tOf_ok ((op_ok (y := .ref h3.length) (h2 := h4) l1 rfl).trans ?_))
  have t1 : toP maxP h4 (.ref h2.length) = some (.list [.bool a, .bool b]) := toP_bb (app_old (by show (h2 ++ _)[h2.length]? = _; rw [app_at0]; rfl))
  have t2 : toP maxP h4 (.ref h3.length) = some (.list [.bool a, .bool b]) := toP_bb (by show (h3 ++ _)[h3.length]? = _; rw [app_at0]; rfl)
  show eqB (.ref h2.length) (.ref h3.length) h4 not = _
  rw [eqB_ref, deep_ok t1 t2 (by cases a <;> cases b <;> rfl) (by cases a <;> cases b <;> rfl)]
  cases a <;> cases b <;> rfl
end Lw

set_option Elab.async false
set_option linter.all false
set_option maxRecDepth 100000
set_option maxHeartbeats 2000000
namespace Lw
open PySem PySem.Spec PyProof.Rows L2 Mi
/-- the env behind the table -/
abbrev e9 (s : Nat) (xs : List Int) (dr : Nat) (v m11 m12 m13 m14 m15 m16 m17 m18 : Option D) : En := ev s xs (some (.ref dr)) v (some (.bl (decide (Fz.Cl xs)))) (some (.bl (decide (Fz.Cl xs ∧ Wh xs)))) (some (.int (Fz.tb xs).1)) (some (.int (Fz.tb xs).2.1)) (some (.int (Fz.tb xs).2.2.1)) (some (.int (Fz.tb xs).2.2.2)) m11 m12 m13 m14 m15 m16 m17 m18
theorem asgG_ok {fe : Fe} {tg : Fg} {env env' : En} {h h1 h' : Hd} {d : D} (e : fe env h = .ok d h1) (g : tg d env h1 = some (env', h')) : sAsg fe tg env h = .nx env' h' := by
  show (match fe env h with
    | .ok d h1 => (match tg d env h1 with
      | some (env1, h1) => SRes.nx env1 h1
      | none => .no)
    | .ex e h1 => .ex e env h1
    | .no => .no) = _
  rw [e]
  dsimp only
  rw [g]
theorem right9 {xs : List Int} (g : Good xs) (s dr : Nat) (v : Option D) (h : Hd) : b__law_right_9 (e3 s xs dr v (some (.bl (decide (Fz.Cl xs)))) (some (.bl (decide (Fz.Cl xs ∧ Wh xs)))) none none none none) h = .nx (e9 s xs dr v none none none none none none none none) h := by
  have hh := g.hi
  unfold b__law_right_9
  refine asgG_ok ((call_ok (ds := [tI xs]) rfl).trans (law_table_tup xs h g.sm (by omega))) ?_
  rfl
theorem tr_log {xs : List Int} (g : Good xs) : ((Fz.tb xs).1 + (Fz.tb xs).2.2.2).natAbs.log2 < 200 := by
  have hh := g.hi
  have hlo := g.lo
  rw [← Fz.trace_eq xs (by omega)]
  have h1 := (E_bd g.sm g.pos 0 (xs.length + 1)).1
  have h2 := (E_bd g.sm g.pos 1 (xs.length - 1)).1
  have k1 : (1001 : Nat) ^ (xs.length + 1) ≤ 1001 ^ 10 := Nat.pow_le_pow_right (by decide) (by omega)
  have k2 : (1001 : Nat) ^ (xs.length - 1) ≤ 1001 ^ 10 := Nat.pow_le_pow_right (by decide) (by omega)
  have k3 : (1001 : Nat) ^ 10 + 1001 ^ 10 < 2 ^ 200 := by decide
  refine log_lt ?_ (by decide)
  have := Int.natAbs_sub_le (Fz.E xs 0 (xs.length + 1)) (Fz.E xs 1 (xs.length - 1))
  omega
theorem right10 {xs : List Int} (g : Good xs) (s dr : Nat) (v : Option D) (h : Hd) : ∃ h', b__law_right_10 (e9 s xs dr v none none none none none none none none) h = .nx (e9 s xs dr v none none none none none none none none) h' ∧ Kp [] h h' := by
  have hlo := g.lo
  obtain ⟨h1, e1, kp1⟩ := trace_of_ok g h
  obtain ⟨h2, e2, kp2⟩ := trace_of_ok g h1
  have tl := Nat.lt_of_lt_of_le (tr_log g) (show 200 ≤ 1920 by decide)
  refine ⟨h2, ?_, kp1.trans kp2⟩
  have t1 : tOf (eOp gNe (eCall gRepr (aCons (eCall s_trace_of (aCons (eVar 1) aNil)) aNil)) (eCall gRepr (aCons (eOp gAdd (eVar 7) (eVar 10)) aNil))) (e9 s xs dr v none none none none none none none none) h = .ok false h1 := by
    refine tOf_ok ((op_ok ((call_ok (cons_ok ((call_ok (ds := [tI xs]) rfl).trans e1) rfl)).trans (repr_int tl)) ((call_ok (ds := [.int ((Fz.tb xs).1 + (Fz.tb xs).2.2.2)]) rfl).trans (repr_int tl))).trans ?_)
    show Res.ok (D.bl (!decide (_ = _))) h1 = _
    rw [decide_eq_true rfl]
    rfl
  have t2 : tOf (eOp gNe (eCallK s_trace_of (fun ds ws => gI [0] ds ws) aNil (aCons (eVar 1) aNil)) (eOp gAdd (eVar 7) (eVar 10))) (e9 s xs dr v none none none none none none none none) h1 = .ok false h2 := by
    refine tOf_ok ((op_ok (y := .int ((Fz.tb xs).1 + (Fz.tb xs).2.2.2)) ((callK_ok (ds := []) (ws := [tI xs]) rfl rfl).trans e2) rfl).trans ?_)
    show Res.ok (D.bl (!decide (_ = _))) h2 = _
    rw [decide_eq_true rfl]
    rfl
  have t3 : tAndD (tOf (eVar 5)) (tOf (eOp gNe (eOp gAdd (eVar 7) (eVar 10)) (eUn gNeg (eC (.int 2))))) (e9 s xs dr v none none none none none none none none) h2 = .ok false h2 := by
    show (if decide (Fz.Cl xs) = true then tOf (eOp gNe (eOp gAdd (eVar 7) (eVar 10)) (eUn gNeg (eC (.int 2)))) (e9 s xs dr v none none none none none none none none) h2 else .ok false h2) = _
    by_cases c : Fz.Cl xs
    · rw [if_pos (decide_eq_true c)]
      refine tOf_ok ((op_ok (x := .int ((Fz.tb xs).1 + (Fz.tb xs).2.2.2)) (y := .int (-2)) rfl rfl).trans ?_)
      rw [Fz.cl_tr xs (by omega) c]
      rfl
    · rw [if_neg (by simpa using c)]
  unfold b__law_right_10
  exact if_ff (or_ff t1 (or_ff t2 t3))
theorem right11 {xs : List Int} (g : Good xs) (s dr : Nat) (v : Option D) (h : Hd) : b__law_right_11 (e9 s xs dr v none none none none none none none none) h = .nx (e9 s xs dr v none none none none none none none none) h := by
  have hlo := g.lo
  have q : eOp gEq (eTup (aCons (eVar 7) (aCons (eVar 8) (aCons (eVar 9) (aCons (eVar 10) aNil))))) (eTup (aCons (eUn gNeg (eC (.int 1))) (aCons (eC (.int 0)) (aCons (eC (.int 0)) (aCons (eUn gNeg (eC (.int 1))) aNil))))) (e9 s xs dr v none none none none none none none none) h = .ok (.bl (decide (Fz.Cl xs))) h := by
    refine (op_ok (x := .tup ([(Fz.tb xs).1, (Fz.tb xs).2.1, (Fz.tb xs).2.2.1, (Fz.tb xs).2.2.2].map .int)) (y := .tup (([-1, 0, 0, -1] : List Int).map .int)) rfl rfl).trans ?_
    refine (eq_tups (k := id)).trans ?_
    congr 2
    show decide _ = _
    rw [Bool.eq_iff_iff, decide_eq_true_eq, decide_eq_true_eq, Fz.cl_iff xs (by omega)]
    constructor
    · intro z
      injection z with z1 z
      injection z with z2 z
      injection z with z3 z
      injection z with z4 z
      exact Prod.ext z1 (Prod.ext z2 (Prod.ext z3 z4))
    · intro z
      rw [z]
  unfold b__law_right_11
  refine if_ff (tOf_ok ((op_ok (x := .bl (decide (Fz.Cl xs))) rfl q).trans ?_))
  show Res.ok (D.bl (!decide (_ = _))) h = _
  rw [decide_eq_true rfl]
  rfl
end Lw

set_option Elab.async false
set_option linter.all false
set_option maxRecDepth 100000
set_option maxHeartbeats 2000000
namespace Lw
open PySem PySem.Spec PyProof.Rows L2 Mi
theorem and_ff {f t : Ft} {env : En} {h h1 : Hd} (e : f env h = .ok false h1) : tAndD f t env h = .ok false h1 := by
  show (f env h).bind _ = _
  rw [e]
  rfl
theorem and_tt {f t : Ft} {env : En} {h h1 h2 : Hd} {b : Bool} (e : f env h = .ok true h1) (e2 : t env h1 = .ok b h2) : tAndD f t env h = .ok b h2 := by
  show (f env h).bind _ = _
  rw [e]
  exact e2
theorem ne_ii {i : Int} {h : Hd} : gNe (.int i) (.int i) h = .ok (.bl false) h := by
  show Res.ok (D.bl (!decide (i = i))) h = _
  rw [decide_eq_true rfl]
  rfl
theorem ne_ss {i : Str} {h : Hd} : gNe (.str i) (.str i) h = .ok (.bl false) h := by
  show Res.ok (D.bl (!decide (i = i))) h = _
  rw [decide_eq_true rfl]
  rfl
noncomputable abbrev Bd12 : Fs := (sSeq (sAsg (eCall s__law_digit (aCons (eVar 0) (aCons (eVar 2) aNil))) (gSet 4))
    (sSeq (sAsg (eOp gAdd (eVar 4) (eCall s__law_digit (aCons (eVar 0) (aCons (eOp gAdd (eVar 2) (eC (.int 1))) aNil)))) (gSet 12))
    (sSeq (sAsg (eCall s__law_between (aCons (eVar 1) (aCons (eVar 4) (aCons (eVar 12) aNil)))) (gSet 13))
    (sSeq (sIf (tOf (eOp gNe (eCall gRepr (aCons (eCall s_entry_of (aCons (eVar 1) (aCons (eVar 4) (aCons (eVar 12) aNil)))) aNil)) (eCall gRepr (aCons (eVar 13) aNil)))) (sRet (eC (.bl false))) sNil)
    (sSeq (sIf (tOf (eOp gNe (eCallK s_entry_of (fun ds ws => gI [2, 1, 0] ds ws) aNil (aCons (eVar 12) (aCons (eVar 4) (aCons (eVar 1) aNil)))) (eVar 13))) (sRet (eC (.bl false))) sNil)
    (sSeq (sAsg (eCall gTuple (aCons (eLc (iRng2D (aCons (eOp gAdd (eVar 4) (eC (.int 1))) (aCons (eVar 12) aNil))) (gSet 19) tYesD (eOp gIx (eVar 1) (eOp gMod (eVar 19) (eVar 2))) [19]) aNil)) (gSet 14))
    (sSeq (sIf (tOrD (tOf (eOp gNe (eCall gRepr (aCons (eCall s_continuant (aCons (eVar 14) aNil)) aNil)) (eCall gRepr (aCons (eCall s__law_continuant (aCons (eVar 14) aNil)) aNil)))) (tOf (eOp gNe (eCallK s_continuant (fun ds ws => gI [0] ds ws) aNil (aCons (eRev (eVar 14)) aNil)) (eCall s_continuant (aCons (eVar 14) aNil))))) (sRet (eC (.bl false))) sNil)
    (sIf (tAndD (tOf (eOp gLt (eVar 4) (eVar 12))) (tOf (eOp gNe (eCall s_continuant (aCons (eVar 14) aNil)) (eVar 13)))) (sRet (eC (.bl false))) sNil))))))))
theorem turn12 {xs : List Int} (g : Good xs) (s dr : Nat) (n : Int) (hn : n ≤ 80000) (v m11 m12 m13 m14 : Option D) (h : Hd) (st : St s n h) : ∃ h' v' m12' m13' m14', Bd12 (e9 s xs dr v m11 m12 m13 m14 none none none none) h = .nx (e9 s xs dr v' m11 m12' m13' m14' none none none none) h' ∧ St s (n + 8) h' ∧ Kp [s] h h' := by
  have hlo := g.lo
  have hh := g.hi
  obtain ⟨a, h1, e1, a0, a1, st1, kp1⟩ := digit_ok s n (xs.length : Nat) (by omega) (by omega) (by omega) h st
  obtain ⟨b, h2, e2, b0, b1, st2, kp2⟩ := digit_ok s (n + 4) ((xs.length : Nat) + 1) (by omega) (by omega) (by omega) h1 st1
  obtain ⟨A, rfl⟩ : ∃ A : Nat, a = (A : Int) := ⟨a.toNat, by omega⟩
  obtain ⟨B, rfl⟩ : ∃ B : Nat, b = (B : Int) := ⟨b.toNat, by omega⟩
  have hA : A < xs.length := by omega
  have hB : B ≤ xs.length := by omega
  obtain ⟨g3, e3⟩ := law_between_ok g A B (by omega) (by omega) (A : Nat) ((A + B : Nat) : Int) rfl rfl h2
  obtain ⟨h4, e4, kp4⟩ := entry_of_ok g A B hA hB (h2 ++ g3)
  obtain ⟨h5, e5, kp5⟩ := entry_of_ok g A B hA hB h4
  have lE := Nat.lt_of_lt_of_le (E_log g A B (by omega)) (show 200 ≤ 1920 by decide)
  let row := Fz.sg xs (A + 1) (B - 1)
  have rs : Sm row := sg_sm g.sm g.pos _ _
  have rl : row.length = B - 1 := Fz.sg_len xs _ _
  have rK : Fz.K row = Fz.E xs A (B - 1 + 1) := (Fz.E_K xs A (B - 1)).symm
  have lK : (Fz.K row).natAbs.log2 < 1920 := by
    rw [rK]
    exact Nat.lt_of_lt_of_le (E_log g A (B - 1 + 1) (by omega)) (by decide)
  let h6 := h5 ++ [Ob.lst (row.map .int)]
  let h7 := h6 ++ [Ob.lst [], Ob.lst []]
  obtain ⟨g8, e8⟩ := law_continuant_ok row rs (by omega) h7
  let h8 := h7 ++ g8
  let h9 := h8 ++ [Ob.lst [], Ob.lst []]
  let h10 := h9 ++ [Ob.lst [], Ob.lst []]
  have s0 : sAsg (eCall s__law_digit (aCons (eVar 0) (aCons (eVar 2) aNil))) (gSet 4) (e9 s xs dr v m11 m12 m13 m14 none none none none) h = .nx (e9 s xs dr (some (.int (A : Nat))) m11 m12 m13 m14 none none none none) h1 :=
    asg_ok (i := 4) ((call_ok (ds := [.ref s, .int (xs.length : Nat)]) rfl).trans e1) (by simp)
  have s1 : sAsg (eOp gAdd (eVar 4) (eCall s__law_digit (aCons (eVar 0) (aCons (eOp gAdd (eVar 2) (eC (.int 1))) aNil)))) (gSet 12) (e9 s xs dr (some (.int (A : Nat))) m11 m12 m13 m14 none none none none) h1 = .nx (e9 s xs dr (some (.int (A : Nat))) m11 (some (.int ((A + B : Nat) : Int))) m13 m14 none none none none) h2 := by
    refine asg_ok (i := 12) (d := .int ((A + B : Nat) : Int)) ((op_ok (x := .int (A : Nat)) rfl ((call_ok (ds := [.ref s, .int ((xs.length : Nat) + 1)]) rfl).trans e2)).trans ?_) (by simp)
    show Res.ok (D.int ((A : Int) + (B : Int))) h2 = _
    rw [show (A : Int) + (B : Int) = ((A + B : Nat) : Int) by omega]
  have s2 : sAsg (eCall s__law_between (aCons (eVar 1) (aCons (eVar 4) (aCons (eVar 12) aNil)))) (gSet 13) (e9 s xs dr (some (.int (A : Nat))) m11 (some (.int ((A + B : Nat) : Int))) m13 m14 none none none none) h2 = .nx (e9 s xs dr (some (.int (A : Nat))) m11 (some (.int ((A + B : Nat) : Int))) (some (.int (Fz.E xs A B))) m14 none none none none) (h2 ++ g3) :=
    asg_ok (i := 13) ((call_ok (ds := [tI xs, .int (A : Nat), .int ((A + B : Nat) : Int)]) rfl).trans e3) (by simp)
  have s3 : sIf (tOf (eOp gNe (eCall gRepr (aCons (eCall s_entry_of (aCons (eVar 1) (aCons (eVar 4) (aCons (eVar 12) aNil)))) aNil)) (eCall gRepr (aCons (eVar 13) aNil)))) (sRet (eC (.bl false))) sNil (e9 s xs dr (some (.int (A : Nat))) m11 (some (.int ((A + B : Nat) : Int))) (some (.int (Fz.E xs A B))) m14 none none none none) (h2 ++ g3) = .nx (e9 s xs dr (some (.int (A : Nat))) m11 (some (.int ((A + B : Nat) : Int))) (some (.int (Fz.E xs A B))) m14 none none none none) h4 :=
    if_ff (tOf_ok ((op_ok ((call_ok (cons_ok ((call_ok (ds := [tI xs, .int (A : Nat), .int ((A + B : Nat) : Int)]) rfl).trans e4) rfl)).trans (repr_int lE)) ((call_ok (ds := [.int (Fz.E xs A B)]) rfl).trans (repr_int lE))).trans ne_ss))
  have s4 : sIf (tOf (eOp gNe (eCallK s_entry_of (fun ds ws => gI [2, 1, 0] ds ws) aNil (aCons (eVar 12) (aCons (eVar 4) (aCons (eVar 1) aNil)))) (eVar 13))) (sRet (eC (.bl false))) sNil (e9 s xs dr (some (.int (A : Nat))) m11 (some (.int ((A + B : Nat) : Int))) (some (.int (Fz.E xs A B))) m14 none none none none) h4 = .nx (e9 s xs dr (some (.int (A : Nat))) m11 (some (.int ((A + B : Nat) : Int))) (some (.int (Fz.E xs A B))) m14 none none none none) h5 :=
    if_ff (tOf_ok ((op_ok (y := .int (Fz.E xs A B)) ((callK_ok (ds := []) (ws := [.int ((A + B : Nat) : Int), .int (A : Nat), tI xs]) rfl rfl).trans e5) rfl).trans ne_ii))
  have c1 : eLc (iRng2D (aCons (eOp gAdd (eVar 4) (eC (.int 1))) (aCons (eVar 12) aNil))) (gSet 19) tYesD (eOp gIx (eVar 1) (eOp gMod (eVar 19) (eVar 2))) [19] (e9 s xs dr (some (.int (A : Nat))) m11 (some (.int ((A + B : Nat) : Int))) (some (.int (Fz.E xs A B))) m14 none none none none) h5 = .ok (.ref h5.length) h6 := by
    rw [eLc_ok (rng2_ok (i := (A : Int) + 1) (j := ((A + B : Nat) : Int)) (h1 := h5) rfl (rng_small (by omega) (by omega)) (rng_small (by omega) (by omega))), show (((A + B : Nat) : Int) - ((A : Int) + 1)).toNat = B - 1 by omega]
    refine comp_row (xs := xs) A (B - 1) (by omega) (A : Int) (gSet 19) _ _ h5 fun j h' hj => ?_
    have i1 : eOp gMod (eVar 19) (eVar 2) (e9 s xs dr (some (.int (A : Nat))) m11 (some (.int ((A + B : Nat) : Int))) (some (.int (Fz.E xs A B))) m14 none none none none |>.set 19 (some (.int ((A : Int) + 1 + (j : Nat) * 1)))) h' = .ok (.int (Int.fmod ((A + 1 + j : Nat) : Int) (xs.length : Nat))) h' := by
      refine (op_ok (x := .int ((A : Int) + 1 + (j : Nat) * 1)) (y := .int (xs.length : Nat)) rfl rfl).trans ?_
      unfold gMod
      dsimp only
      rw [if_pos (decide_eq_true (by omega)), show ((A : Int) + 1 + (j : Nat) * 1) = ((A + 1 + j : Nat) : Int) by omega]
    have i2 : eOp gIx (eVar 1) (eOp gMod (eVar 19) (eVar 2)) (e9 s xs dr (some (.int (A : Nat))) m11 (some (.int ((A + B : Nat) : Int))) (some (.int (Fz.E xs A B))) m14 none none none none |>.set 19 (some (.int ((A : Int) + 1 + (j : Nat) * 1)))) h' = .ok (.int (Fz.at_ xs (A + 1 + j))) h' := by
      refine (op_ok (x := tI xs) rfl i1).trans ?_
      show (match atI (xs.map D.int) _ with
        | some d => Res.ok d h'
        | none => .no) = _
      rw [at_mod g.pos]
    show (match eOp gIx (eVar 1) (eOp gMod (eVar 19) (eVar 2)) (e9 s xs dr (some (.int (A : Nat))) m11 (some (.int ((A + B : Nat) : Int))) (some (.int (Fz.E xs A B))) m14 none none none none |>.set 19 (some (.int ((A : Int) + 1 + (j : Nat) * 1)))) h' with
      | .ok y h3 => Res.ok [y] h3
      | _ => .no) = _
    rw [i2]
  have s5 : sAsg (eCall gTuple (aCons (eLc (iRng2D (aCons (eOp gAdd (eVar 4) (eC (.int 1))) (aCons (eVar 12) aNil))) (gSet 19) tYesD (eOp gIx (eVar 1) (eOp gMod (eVar 19) (eVar 2))) [19]) aNil)) (gSet 14) (e9 s xs dr (some (.int (A : Nat))) m11 (some (.int ((A + B : Nat) : Int))) (some (.int (Fz.E xs A B))) m14 none none none none) h5 = .nx (e9 s xs dr (some (.int (A : Nat))) m11 (some (.int ((A + B : Nat) : Int))) (some (.int (Fz.E xs A B))) (some (tI row)) none none none none) h6 := by
    refine asg_ok (i := 14) ((call_ok (cons_ok c1 rfl)).trans ?_) (by simp)
    unfold gTuple
    dsimp only [seqD]
    rw [show h6[h5.length]? = some (.lst (row.map .int)) by show (h5 ++ _)[h5.length]? = _; rw [app_at0]; rfl]
    rfl
  have s6 : sIf (tOrD (tOf (eOp gNe (eCall gRepr (aCons (eCall s_continuant (aCons (eVar 14) aNil)) aNil)) (eCall gRepr (aCons (eCall s__law_continuant (aCons (eVar 14) aNil)) aNil)))) (tOf (eOp gNe (eCallK s_continuant (fun ds ws => gI [0] ds ws) aNil (aCons (eRev (eVar 14)) aNil)) (eCall s_continuant (aCons (eVar 14) aNil))))) (sRet (eC (.bl false))) sNil (e9 s xs dr (some (.int (A : Nat))) m11 (some (.int ((A + B : Nat) : Int))) (some (.int (Fz.E xs A B))) (some (tI row)) none none none none) h6 = .nx (e9 s xs dr (some (.int (A : Nat))) m11 (some (.int ((A + B : Nat) : Int))) (some (.int (Fz.E xs A B))) (some (tI row)) none none none none) h10 := by
    refine if_ff (or_ff (h1 := h8) (tOf_ok ((op_ok ((call_ok (cons_ok ((call_ok (ds := [tI row]) rfl).trans (continuant_ok row rs (by omega) h6)) rfl)).trans (repr_int lK)) ((call_ok (cons_ok ((call_ok (ds := [tI row]) rfl).trans e8) rfl)).trans (repr_int lK))).trans ne_ss)) (tOf_ok ?_))
    have rv : aCons (eRev (eVar 14)) aNil (e9 s xs dr (some (.int (A : Nat))) m11 (some (.int ((A + B : Nat) : Int))) (some (.int (Fz.E xs A B))) (some (tI row)) none none none none) h8 = .ok [tI row.reverse] h8 := by
      refine cons_ok (x := tI row.reverse) ?_ rfl
      show Res.ok (D.tup (row.map D.int).reverse) h8 = _
      rw [← List.map_reverse]
      rfl
    have rr : Sm row.reverse := fun x hx => rs x (List.mem_reverse.mp hx)
    refine (op_ok ((callK_ok (ds := []) (ws := [tI row.reverse]) rfl rv).trans (continuant_ok row.reverse rr (by rw [List.length_reverse]; omega) h8)) ((call_ok (ds := [tI row]) rfl).trans (continuant_ok row rs (by omega) h9))).trans ?_
    rw [Fz.K_rev]
    exact ne_ii
  have lt : tOf (eOp gLt (eVar 4) (eVar 12)) (e9 s xs dr (some (.int (A : Nat))) m11 (some (.int ((A + B : Nat) : Int))) (some (.int (Fz.E xs A B))) (some (tI row)) none none none none) h10 = .ok (decide (((A : Nat) : Int) < ((A + B : Nat) : Int))) h10 := rfl
  have s7 : ∃ g11, sIf (tAndD (tOf (eOp gLt (eVar 4) (eVar 12))) (tOf (eOp gNe (eCall s_continuant (aCons (eVar 14) aNil)) (eVar 13)))) (sRet (eC (.bl false))) sNil (e9 s xs dr (some (.int (A : Nat))) m11 (some (.int ((A + B : Nat) : Int))) (some (.int (Fz.E xs A B))) (some (tI row)) none none none none) h10 = .nx (e9 s xs dr (some (.int (A : Nat))) m11 (some (.int ((A + B : Nat) : Int))) (some (.int (Fz.E xs A B))) (some (tI row)) none none none none) (h10 ++ g11) := by
    by_cases hb : B = 0
    · refine ⟨[], ?_⟩
      rw [List.append_nil]
      refine if_ff (and_ff ?_)
      rw [lt, decide_eq_false (by omega)]
    · refine ⟨[.lst [], .lst []], if_ff (and_tt (h1 := h10) ?_ (tOf_ok ((op_ok (y := .int (Fz.E xs A B)) ((call_ok (ds := [tI row]) rfl).trans (continuant_ok row rs (by omega) h10)) rfl).trans ?_)))⟩
      · rw [lt, decide_eq_true (by omega)]
      · rw [rK, show B - 1 + 1 = B by omega]
        exact ne_ii
  obtain ⟨g11, s7⟩ := s7
  have q6 : Kp [] h2 h6 := ((Kp.app.trans kp4).trans kp5).trans Kp.app
  have q7 : Kp [] h2 h7 := q6.trans Kp.app
  have q8 : Kp [] h2 h8 := q7.trans Kp.app
  have q9 : Kp [] h2 h9 := q8.trans Kp.app
  have q10 : Kp [] h2 h10 := q9.trans Kp.app
  have q11 : Kp [] h2 (h10 ++ g11) := q10.trans Kp.app
  refine ⟨h10 ++ g11, _, _, _, _, (seq_nx s0).trans ((seq_nx s1).trans ((seq_nx s2).trans ((seq_nx s3).trans ((seq_nx s4).trans ((seq_nx s5).trans ((seq_nx s6).trans s7)))))), ?_, (kp1.trans kp2).trans q11.any⟩
  have := st2.keep q11
  rwa [show n + 4 + 4 = n + 8 by omega] at this
end Lw

set_option Elab.async false
set_option linter.all false
set_option maxRecDepth 100000
set_option maxHeartbeats 2000000
namespace Lw
open PySem PySem.Spec PyProof.Rows L2 Mi
theorem right12 {xs : List Int} (g : Good xs) (s dr : Nat) (n : Int) (hn : n ≤ 70000) (v : Option D) (h : Hd) (st : St s n h) : ∃ h' v' m11 m12 m13 m14, b__law_right_12 (e9 s xs dr v none none none none none none none none) h = .nx (e9 s xs dr v' m11 m12 m13 m14 none none none none) h' ∧ St s (n + 32) h' ∧ Kp [s] h h' := by
  have key := for_inv (src := rngS 0 4 1) (tg := gSet 11) (body := Bd12) (env := e9 s xs dr v none none none none none none none none) (h := h) 4 (fun i => .int (0 + (i : Nat) * 1))
    (fun i env h1 => ∃ v' m11 m12 m13 m14, env = e9 s xs dr v' m11 m12 m13 m14 none none none none ∧ St s (n + 8 * (i : Nat)) h1 ∧ Kp [s] h h1) ⟨v, none, none, none, none, rfl, by simpa using st, Kp.refl⟩ ?_ ?_ (by rw [most_eq]; omega)
  · obtain ⟨env', h', e, v', m11, m12, m13, m14, rfl, st', kp⟩ := key
    refine ⟨h', v', m11, m12, m13, m14, ?_, by simpa using st', kp⟩
    unfold b__law_right_12
    rw [sFor_ok (rng1_ok (j := 4) (h1 := h) rfl (rng_small (by omega) (by omega)))]
    exact e
  · rintro i env h1 hi ⟨v', m11, m12, m13, m14, rfl, st1, kp⟩
    refine ⟨rng_item hi, ?_⟩
    obtain ⟨h2, v2, m12', m13', m14', e2, st2, kp2⟩ := turn12 g s dr (n + 8 * (i : Nat)) (by omega) v' (some (.int (0 + (i : Nat) * 1))) m12 m13 m14 h1 st1
    refine ⟨e9 s xs dr v2 (some (.int (0 + (i : Nat) * 1))) m12' m13' m14' none none none none, h2, ?_, ⟨v2, some (.int (0 + (i : Nat) * 1)), m12', m13', m14', rfl, ?_, kp.trans kp2⟩⟩
    · show (match Bd12 (e9 s xs dr v' (some (.int (0 + (i : Nat) * 1))) m12 m13 m14 none none none none) h1 with
        | .ct env2 h2 => SRes.nx env2 h2
        | r => r) = _
      rw [e2]
    · rwa [show n + 8 * (i : Nat) + 8 = n + 8 * ((i + 1 : Nat) : Int) by omega] at st2
  · rintro env h1 _
    exact rng_stop
theorem ix_due {xs : List Int} {dr : Nat} {h : Hd} (d : Du xs dr h) (i : Nat) (hi : i < xs.length) : gIx (.ref dr) (.int (i : Nat)) h = .ok (tI (ln xs i (xs.length + 1))) h := by
  unfold gIx
  dsimp only
  rw [show h[dr]? = some (.lst (dls (duL xs))) from d]
  dsimp only [ixSeq]
  have e : (dls (duL xs))[i]? = some (tI (ln xs i (xs.length + 1))) := by
    unfold dls duL
    rw [List.getElem?_map, List.getElem?_map, List.getElem?_range hi]
    rfl
  rw [atI_nat (List.getElem?_eq_some_iff.mp e).1, e]
theorem ix_ln {xs : List Int} {h : Hd} (a j : Nat) (hj : j < xs.length + 1) : gIx (tI (ln xs a (xs.length + 1))) (.int (j : Nat)) h = .ok (.int (Fz.E xs a j)) h := by
  unfold tI gIx
  dsimp only [ixSeq]
  have e : ((ln xs a (xs.length + 1)).map D.int)[j]? = some (.int (Fz.E xs a j)) := by
    rw [List.getElem?_map, ln_at xs a _ j hj]
    rfl
  rw [atI_nat (List.getElem?_eq_some_iff.mp e).1, e]
theorem mul_log {x y : Int} (hx : x.natAbs.log2 < 200) (hy : y.natAbs.log2 < 200) (h : Hd) : gMul (.int x) (.int y) h = .ok (.int (x * y)) h := by
  unfold gMul
  dsimp only
  rw [if_pos]
  unfold mulOk
  rw [Bool.or_eq_true, decide_eq_true_eq]
  right
  omega
noncomputable abbrev Bd13 : Fs := (sIf (tOf (eOp gNe (eOp gSub (eOp gMul (eOp gIx (eVar 16) (eVar 18)) (eOp gIx (eVar 17) (eVar 18))) (eOp gMul (eOp gIx (eVar 16) (eOp gAdd (eVar 18) (eC (.int 1)))) (eOp gIx (eVar 17) (eOp gSub (eVar 18) (eC (.int 1)))))) (eC (.int 1)))) (sRet (eC (.bl false))) sNil)
theorem turn13 {xs : List Int} (g : Good xs) (s dr : Nat) (v m11 m12 m13 m14 m15 : Option D) (h : Hd) (a i : Nat) (hi : i + 1 < xs.length) :
    Bd13 (e9 s xs dr v m11 m12 m13 m14 m15 (some (tI (ln xs a (xs.length + 1)))) (some (tI (ln xs ((a + 1) % xs.length) (xs.length + 1)))) (some (.int ((i + 1 : Nat) : Int)))) h = .nx (e9 s xs dr v m11 m12 m13 m14 m15 (some (tI (ln xs a (xs.length + 1)))) (some (tI (ln xs ((a + 1) % xs.length) (xs.length + 1)))) (some (.int ((i + 1 : Nat) : Int)))) h := by
  have hh := g.hi
  generalize hb : (a + 1) % xs.length = b
  have eb : ∀ j, Fz.E xs b j = Fz.E xs (a + 1) j := fun j => by rw [← hb, Fz.E_mod]
  have i1 : eOp gIx (eVar 16) (eVar 18) (e9 s xs dr v m11 m12 m13 m14 m15 (some (tI (ln xs a (xs.length + 1)))) (some (tI (ln xs b (xs.length + 1)))) (some (.int ((i + 1 : Nat) : Int)))) h = .ok (.int (Fz.E xs a (i + 1))) h :=
    (op_ok rfl rfl).trans (ix_ln a (i + 1) (by omega))
  have i2 : eOp gIx (eVar 17) (eVar 18) (e9 s xs dr v m11 m12 m13 m14 m15 (some (tI (ln xs a (xs.length + 1)))) (some (tI (ln xs b (xs.length + 1)))) (some (.int ((i + 1 : Nat) : Int)))) h = .ok (.int (Fz.E xs b (i + 1))) h :=
    (op_ok rfl rfl).trans (ix_ln b (i + 1) (by omega))
  have n3 : eOp gAdd (eVar 18) (eC (.int 1)) (e9 s xs dr v m11 m12 m13 m14 m15 (some (tI (ln xs a (xs.length + 1)))) (some (tI (ln xs b (xs.length + 1)))) (some (.int ((i + 1 : Nat) : Int)))) h = .ok (.int ((i + 2 : Nat) : Int)) h := by
    refine (op_ok (x := .int ((i + 1 : Nat) : Int)) (y := .int 1) rfl rfl).trans ?_
    show Res.ok (D.int (((i + 1 : Nat) : Int) + 1)) h = _
    rw [show (((i + 1 : Nat) : Int) + 1) = ((i + 2 : Nat) : Int) by omega]
  have n4 : eOp gSub (eVar 18) (eC (.int 1)) (e9 s xs dr v m11 m12 m13 m14 m15 (some (tI (ln xs a (xs.length + 1)))) (some (tI (ln xs b (xs.length + 1)))) (some (.int ((i + 1 : Nat) : Int)))) h = .ok (.int ((i : Nat) : Int)) h := by
    refine (op_ok (x := .int ((i + 1 : Nat) : Int)) (y := .int 1) rfl rfl).trans ?_
    show Res.ok (D.int (((i + 1 : Nat) : Int) - 1)) h = _
    rw [show (((i + 1 : Nat) : Int) - 1) = ((i : Nat) : Int) by omega]
  have i3 : eOp gIx (eVar 16) (eOp gAdd (eVar 18) (eC (.int 1))) (e9 s xs dr v m11 m12 m13 m14 m15 (some (tI (ln xs a (xs.length + 1)))) (some (tI (ln xs b (xs.length + 1)))) (some (.int ((i + 1 : Nat) : Int)))) h = .ok (.int (Fz.E xs a (i + 2))) h :=
    (op_ok rfl n3).trans (ix_ln a (i + 2) (by omega))
  have i4 : eOp gIx (eVar 17) (eOp gSub (eVar 18) (eC (.int 1))) (e9 s xs dr v m11 m12 m13 m14 m15 (some (tI (ln xs a (xs.length + 1)))) (some (tI (ln xs b (xs.length + 1)))) (some (.int ((i + 1 : Nat) : Int)))) h = .ok (.int (Fz.E xs b i)) h :=
    (op_ok rfl n4).trans (ix_ln b i (by omega))
  have m1 := (op_ok i1 i2).trans (mul_log (E_log g a (i + 1) (by omega)) (E_log g b (i + 1) (by omega)) h)
  have m2 := (op_ok i3 i4).trans (mul_log (E_log g a (i + 2) (by omega)) (E_log g b i (by omega)) h)
  have m3 := (op_ok (g := Mi.gSub) m1 m2).trans (show Mi.gSub (.int (Fz.E xs a (i + 1) * Fz.E xs b (i + 1))) (.int (Fz.E xs a (i + 2) * Fz.E xs b i)) h = .ok (.int 1) h by
    show Res.ok (D.int (Fz.E xs a (i + 1) * Fz.E xs b (i + 1) - Fz.E xs a (i + 2) * Fz.E xs b i)) h = _
    rw [eb, eb, Fz.E_det xs a i])
  exact if_ff (tOf_ok ((op_ok m3 rfl).trans ne_ii))
theorem right13 {xs : List Int} (g : Good xs) (s dr : Nat) (v m11 m12 m13 m14 : Option D) (h : Hd) (d : Du xs dr h) : ∃ m15 m16 m17 m18, b__law_right_13 (e9 s xs dr v m11 m12 m13 m14 none none none none) h = .nx (e9 s xs dr v m11 m12 m13 m14 m15 m16 m17 m18) h := by
  have hlo := g.lo
  have hh := g.hi
  have key := for_inv (src := rngS 0 xs.length 1) (tg := gSet 15) (body := sSeq (sPar2 16 17 (aCons (eOp gIx (eVar 3) (eVar 15)) (aCons (eOp gIx (eVar 3) (eOp gMod (eOp gAdd (eVar 15) (eC (.int 1))) (eVar 2))) aNil))) (sFor (iRng2D (aCons (eC (.int 1)) (aCons (eVar 2) aNil))) (gSet 18) Bd13))
    (env := e9 s xs dr v m11 m12 m13 m14 none none none none) (h := h) xs.length (fun i => .int (0 + (i : Nat) * 1))
    (fun i env h1 => (∃ m15 m16 m17 m18, env = e9 s xs dr v m11 m12 m13 m14 m15 m16 m17 m18) ∧ h1 = h) ⟨⟨none, none, none, none, rfl⟩, rfl⟩ ?_ ?_ (by rw [most_eq]; omega)
  · obtain ⟨env', h', e, ⟨m15, m16, m17, m18, rfl⟩, rfl⟩ := key
    refine ⟨m15, m16, m17, m18, ?_⟩
    unfold b__law_right_13
    rw [sFor_ok (rng1_ok (j := (xs.length : Nat)) (h1 := h') rfl (rng_small (by omega) (by omega))), Int.toNat_natCast]
    exact e
  · rintro a env h1 hi ⟨⟨m15, m16, m17, m18, rfl⟩, rfl⟩
    refine ⟨rng_item hi, ?_⟩
    rw [show (0 + (a : Nat) * 1 : Int) = ((a : Nat) : Int) by omega]
    have x1 : eOp gIx (eVar 3) (eVar 15) (e9 s xs dr v m11 m12 m13 m14 (some (.int (a : Nat))) m16 m17 m18) h1 = .ok (tI (ln xs a (xs.length + 1))) h1 := (op_ok rfl rfl).trans (ix_due d a hi)
    have x2 : eOp gMod (eOp gAdd (eVar 15) (eC (.int 1))) (eVar 2) (e9 s xs dr v m11 m12 m13 m14 (some (.int (a : Nat))) m16 m17 m18) h1 = .ok (.int (((a + 1) % xs.length : Nat) : Int)) h1 := by
      refine (op_ok (x := .int ((a : Nat) + 1)) (y := .int (xs.length : Nat)) rfl rfl).trans ?_
      unfold gMod
      dsimp only
      rw [if_pos (decide_eq_true (by omega)), show ((a : Nat) + 1 : Int) = ((a + 1 : Nat) : Int) by omega, fmod_nat]
    have x3 : eOp gIx (eVar 3) (eOp gMod (eOp gAdd (eVar 15) (eC (.int 1))) (eVar 2)) (e9 s xs dr v m11 m12 m13 m14 (some (.int (a : Nat))) m16 m17 m18) h1 = .ok (tI (ln xs ((a + 1) % xs.length) (xs.length + 1))) h1 := (op_ok rfl x2).trans (ix_due d _ (Nat.mod_lt _ (by omega)))
    have p1 : sPar2 16 17 (aCons (eOp gIx (eVar 3) (eVar 15)) (aCons (eOp gIx (eVar 3) (eOp gMod (eOp gAdd (eVar 15) (eC (.int 1))) (eVar 2))) aNil)) (e9 s xs dr v m11 m12 m13 m14 (some (.int (a : Nat))) m16 m17 m18) h1 = .nx (e9 s xs dr v m11 m12 m13 m14 (some (.int (a : Nat))) (some (tI (ln xs a (xs.length + 1)))) (some (tI (ln xs ((a + 1) % xs.length) (xs.length + 1)))) m18) h1 := by
      unfold sPar2
      rw [cons_ok x1 (cons_ok x3 rfl)]
      rfl
    have inner := for_inv (src := rngS 1 (xs.length - 1) 1) (tg := gSet 18) (body := Bd13) (env := e9 s xs dr v m11 m12 m13 m14 (some (.int (a : Nat))) (some (tI (ln xs a (xs.length + 1)))) (some (tI (ln xs ((a + 1) % xs.length) (xs.length + 1)))) m18) (h := h1) (xs.length - 1) (fun i => .int (1 + (i : Nat) * 1))
      (fun i env h2 => (∃ m18, env = e9 s xs dr v m11 m12 m13 m14 (some (.int (a : Nat))) (some (tI (ln xs a (xs.length + 1)))) (some (tI (ln xs ((a + 1) % xs.length) (xs.length + 1)))) m18) ∧ h2 = h1) ⟨⟨m18, rfl⟩, rfl⟩ ?_ ?_ (by rw [most_eq]; omega)
    · obtain ⟨env2, h2, e2, ⟨m18', rfl⟩, rfl⟩ := inner
      have f1 : sFor (iRng2D (aCons (eC (.int 1)) (aCons (eVar 2) aNil))) (gSet 18) Bd13 (e9 s xs dr v m11 m12 m13 m14 (some (.int (a : Nat))) (some (tI (ln xs a (xs.length + 1)))) (some (tI (ln xs ((a + 1) % xs.length) (xs.length + 1)))) m18) h2 = .nx (e9 s xs dr v m11 m12 m13 m14 (some (.int (a : Nat))) (some (tI (ln xs a (xs.length + 1)))) (some (tI (ln xs ((a + 1) % xs.length) (xs.length + 1)))) m18') h2 := by
        rw [sFor_ok (rng2_ok (i := 1) (j := (xs.length : Nat)) (h1 := h2) rfl (rng_small (by omega) (by omega)) (rng_small (by omega) (by omega))), show ((xs.length : Int) - 1).toNat = xs.length - 1 by omega]
        exact e2
      refine ⟨e9 s xs dr v m11 m12 m13 m14 (some (.int (a : Nat))) (some (tI (ln xs a (xs.length + 1)))) (some (tI (ln xs ((a + 1) % xs.length) (xs.length + 1)))) m18', h2, ?_, ⟨some (.int (a : Nat)), some (tI (ln xs a (xs.length + 1))), some (tI (ln xs ((a + 1) % xs.length) (xs.length + 1))), m18', rfl⟩, rfl⟩
      have q := (seq_nx (g := sFor (iRng2D (aCons (eC (.int 1)) (aCons (eVar 2) aNil))) (gSet 18) Bd13) p1).trans f1
      show (match sSeq (sPar2 16 17 _) _ (e9 s xs dr v m11 m12 m13 m14 (some (.int (a : Nat))) m16 m17 m18) h2 with
        | .ct env2 h2 => SRes.nx env2 h2
        | r => r) = _
      rw [q]
    · rintro i env h2 hi2 ⟨⟨m18', rfl⟩, rfl⟩
      refine ⟨rng_item hi2, ?_⟩
      rw [show (1 + (i : Nat) * 1 : Int) = ((i + 1 : Nat) : Int) by omega]
      refine ⟨e9 s xs dr v m11 m12 m13 m14 (some (.int (a : Nat))) (some (tI (ln xs a (xs.length + 1)))) (some (tI (ln xs ((a + 1) % xs.length) (xs.length + 1)))) (some (.int ((i + 1 : Nat) : Int))), h2, ?_, ⟨some (.int ((i + 1 : Nat) : Int)), rfl⟩, rfl⟩
      have q := turn13 g s dr v m11 m12 m13 m14 (some (.int (a : Nat))) h2 a i (by omega)
      show (match Bd13 (e9 s xs dr v m11 m12 m13 m14 (some (.int (a : Nat))) (some (tI (ln xs a (xs.length + 1)))) (some (tI (ln xs ((a + 1) % xs.length) (xs.length + 1)))) (some (.int ((i + 1 : Nat) : Int)))) h2 with
        | .ct env2 h2 => SRes.nx env2 h2
        | r => r) = _
      rw [q]
    · rintro env h2 _
      exact rng_stop
  · rintro env h1 _
    exact rng_stop
/-- the test of one wheel answers true -/
theorem right_ok {xs : List Int} (g : Good xs) (s : Nat) (n : Int) (hn : n ≤ 70000) (h : Hd) (st : St s n h) : ∃ h', s__law_right [.ref s, tI xs] h = .ok (.bl true) h' ∧ Kp [s] h h' := by
  have hs := st.lt
  let dr := h.length
  have b0 : b__law_right_0 [some (.ref s), some (tI xs), none, none, none, none, none, none, none, none, none, none, none, none, none, none, none, none, none, none] h = .nx (ev s xs none none none none none none none none none none none none none none none none) h := by
    unfold b__law_right_0
    refine asg_ok (i := 2) (d := .int (xs.length : Nat)) ((call_ok (ds := [tI xs]) rfl).trans ?_) (by simp)
    show Res.ok (D.int ((xs.map D.int).length : Nat)) h = _
    rw [List.length_map]
  have b1 : b__law_right_1 (ev s xs none none none none none none none none none none none none none none none none) h = .nx (ev s xs (some (.ref h.length)) none none none none none none none none none none none none none none none) (h ++ [.lst []]) := by
    unfold b__law_right_1
    exact asg_ok (i := 3) rfl (by simp)
  obtain ⟨h2, v2, b2, d2, kp2⟩ := right2 g s h
  obtain ⟨h3, b3, kp3⟩ := right3 g s h.length v2 h2 d2
  have d3 : Du xs h.length h3 := Du.keep d2 kp3
  obtain ⟨h4, b4, kp4⟩ := right4 g s h.length v2 h3 d3
  have d4 := d3.keep kp4
  obtain ⟨h5, b5, kp5⟩ := right5 g s h.length v2 h4 d4
  have d5 := d4.keep kp5
  obtain ⟨h6, b6, kp6⟩ := right6 g s h.length v2 h5 d5
  have d6 := d5.keep kp6
  obtain ⟨h7, b7, kp7⟩ := right7 g s h.length v2 h6
  have d7 := d6.keep kp7
  obtain ⟨h8, b8, kp8⟩ := right8 g s h.length v2 h7
  have d8 := d7.keep kp8
  have b9 := right9 g s h.length v2 h8
  obtain ⟨h10, b10, kp10⟩ := right10 g s h.length v2 h8
  have d10 := d8.keep kp10
  have b11 := right11 g s h.length v2 h10
  have st10 : St s n h10 := ((((((((st.keep kp2).keep kp3).keep kp4).keep kp5).keep kp6).keep kp7).keep kp8).keep kp10)
  obtain ⟨h12, v12, m11, m12, m13, m14, b12, st12, kp12⟩ := right12 g s h.length n hn v2 h10 st10
  have d12 : Du xs h.length h12 := kp12.at_ _ _ (by simp; omega) d10
  obtain ⟨m15, m16, m17, m18, b13⟩ := right13 g s h.length v12 m11 m12 m13 m14 h12 d12
  obtain ⟨h14, e14, kp14⟩ := refused_ok g h12
  have b14 : b__law_right_14 (e9 s xs h.length v12 m11 m12 m13 m14 m15 m16 m17 m18) h12 = .rt (.bl true) h14 := by
    unfold b__law_right_14
    exact ret_ok ((call_ok (ds := [tI xs, .int (xs.length : Nat)]) rfl).trans e14)
  refine ⟨h14, run_rt [some (.ref s), some (tI xs), none, none, none, none, none, none, none, none, none, none, none, none, none, none, none, none, none, none] ?_, (((((((((kp2.trans kp3).trans kp4).trans kp5).trans kp6).trans kp7).trans kp8).trans kp10).any).trans kp12).trans kp14.any⟩
  unfold b__law_right
  exact (seq_nx b0).trans <| (seq_nx b1).trans <| (seq_nx b2).trans <| (seq_nx b3).trans <| (seq_nx b4).trans <| (seq_nx b5).trans <| (seq_nx b6).trans <| (seq_nx b7).trans <| (seq_nx b8).trans <| (seq_nx b9).trans <| (seq_nx b10).trans <| (seq_nx b11).trans <| (seq_nx b12).trans <| (seq_nx b13).trans b14
end Lw

set_option Elab.async false
set_option linter.all false
set_option maxRecDepth 100000
set_option maxHeartbeats 2000000
namespace Lw
open PySem PySem.Spec PyProof.Rows L2 Mi
theorem eq_ii {i : Int} {h : Hd} : gEq (.int i) (.int i) h = .ok (.bl true) h := by
  show Res.ok (D.bl (decide (i = i))) h = _
  rw [decide_eq_true rfl]
theorem cut_three (ns : List Int) : Mi.cutD (ns.map D.int) none (some 3) = (ns.take 3).map D.int := by
  unfold Mi.cutD HT.sIx
  dsimp only
  rw [if_neg (by omega), List.length_map, List.drop_zero, Nat.sub_zero, show (3 : Int).toNat = 3 from rfl, ← List.map_take]
  by_cases hl : 3 ≤ ns.length
  · rw [Nat.min_eq_left hl]
  · rw [Nat.min_eq_right (by omega), List.take_of_length_le (by omega), List.take_of_length_le (by omega)]
theorem law0 (ns : List Int) : ∃ h' a b c, b_law_0 [some (.ref 0), none, none, none] [.fro (ns.map .int)] = .nx [some (.ref 0), a, b, c] h' := by
  let cs := ns.take 3 ++ [ns.sum]
  have hcs : cs.length ≤ 4 := by
    show (ns.take 3 ++ [ns.sum]).length ≤ 4
    rw [List.length_append, List.length_take]
    show _ + 1 ≤ 4
    omega
  let h3 : Hd := [.fro (ns.map .int), .lst ((ns.take 3).map .int), .lst [.int ns.sum], .lst (cs.map .int)]
  have c1 : eSl (eVar 0) oNone (oSome (eC (.int 3))) [some (.ref 0), none, none, none] [.fro (ns.map .int)] = .ok (.ref 1) [.fro (ns.map .int), .lst ((ns.take 3).map .int)] := by
    show Res.ok (D.ref 1) ([Ob.fro (ns.map .int)] ++ [Ob.lst (Mi.cutD (ns.map D.int) none (some 3))]) = _
    rw [cut_three]
    rfl
  have c2 : eLst (aCons (eCall gSum (aCons (eVar 0) aNil)) aNil) [some (.ref 0), none, none, none] [.fro (ns.map .int), .lst ((ns.take 3).map .int)] = .ok (.ref 2) [.fro (ns.map .int), .lst ((ns.take 3).map .int), .lst [.int ns.sum]] := by
    have s1 : gSum [.ref 0] [.fro (ns.map .int), .lst ((ns.take 3).map .int)] = .ok (.int ns.sum) [.fro (ns.map .int), .lst ((ns.take 3).map .int)] := by
      show (match intsD (ns.map D.int) with
        | some ns => Res.ok (D.int ns.sum) _
        | none => .no) = _
      rw [Mi.ints_map]
    show (aCons _ _ _ _).bind _ = _
    rw [cons_ok ((call_ok (ds := [.ref 0]) rfl).trans s1) rfl]
    rfl
  have c3 : eOp gAdd (eSl (eVar 0) oNone (oSome (eC (.int 3)))) (eLst (aCons (eCall gSum (aCons (eVar 0) aNil)) aNil)) [some (.ref 0), none, none, none] [.fro (ns.map .int)] = .ok (.ref 3) h3 := by
    refine (op_ok c1 c2).trans ?_
    have := cat_ls (r := 1) (t := 2) (ys := ns.take 3) (zs := [ns.sum]) (h := [.fro (ns.map .int), .lst ((ns.take 3).map .int), .lst [.int ns.sum]]) rfl rfl (by rw [List.length_take]; show _ + 1 ≤ 1000; omega)
    exact this
  have c4 : iEnm (eOp gAdd (eSl (eVar 0) oNone (oSome (eC (.int 3)))) (eLst (aCons (eCall gSum (aCons (eVar 0) aNil)) aNil))) [some (.ref 0), none, none, none] [.fro (ns.map .int)] = .ok (enmS (liveS 3)) h3 := by
    show (eOp gAdd _ _ _ _).bind _ = _
    rw [c3]
    rfl
  have key := for_inv (src := enmS (liveS 3)) (tg := gUnp 2 (gsCons (gSet 1) (gsCons (gSet 2) gsNil))) (body := sSeq (sAsg (eCall s__law_draw (aCons (eVar 2) (aCons (eVar 1) aNil))) (gSet 3))
    (sIf (tNotD (tOf (eCall s__law_right (aCons (eVar 3) (aCons (eCall s__law_drawn (aCons (eVar 3) (aCons (eC (.int 9)) aNil))) aNil))))) (sRet (eC (.bl false))) sNil))
    (env := [some (.ref 0), none, none, none]) (h := h3) cs.length (fun i => .tup [.int (i : Nat), .int (cs.getD i 0)])
    (fun i env h1 => (∃ a b c, env = [some (.ref 0), a, b, c]) ∧ h1[3]? = some (.lst (cs.map .int))) ⟨⟨none, none, none, rfl⟩, rfl⟩ ?_ ?_ (by rw [most_eq]; omega)
  · obtain ⟨env', h', e, ⟨a, b, c, rfl⟩, _⟩ := key
    refine ⟨h', a, b, c, ?_⟩
    unfold b_law_0
    rw [sFor_ok c4]
    exact e
  · rintro i env h1 hi ⟨⟨a, b, c, rfl⟩, q⟩
    refine ⟨?_, ?_⟩
    · refine enm_item ?_
      rw [live_item (.inl q) (by simpa using hi)]
      congr 1
      exact getD_int hi
    · obtain ⟨h2, e2, st2, kp2⟩ := draw_ok (cs.getD i 0) i (by omega) h1
      have q2 : h2[3]? = some (.lst (cs.map .int)) := kp2.at_ _ _ (by simp) q
      have l1 : 3 < h1.length := (List.getElem?_eq_some_iff.mp q).1
      obtain ⟨xs, h4, e4, g, st4, kp4⟩ := drawn_ok h1.length 3000 h2 (by omega) st2
      have q4 : h4[3]? = some (.lst (cs.map .int)) := kp4.at_ _ _ (by simp; omega) q2
      obtain ⟨h5, e5, kp5⟩ := right_ok g h1.length (3000 + 400) (by omega) h4 st4
      have q5 : h5[3]? = some (.lst (cs.map .int)) := kp5.at_ _ _ (by simp; omega) q4
      refine ⟨[some (.ref 0), some (.int (i : Nat)), some (.int (cs.getD i 0)), some (.ref h1.length)], h5, ?_, ⟨some (.int (i : Nat)), some (.int (cs.getD i 0)), some (.ref h1.length), rfl⟩, q5⟩
      have s1 : sAsg (eCall s__law_draw (aCons (eVar 2) (aCons (eVar 1) aNil))) (gSet 3) [some (.ref 0), some (.int (i : Nat)), some (.int (cs.getD i 0)), c] h1 = .nx [some (.ref 0), some (.int (i : Nat)), some (.int (cs.getD i 0)), some (.ref h1.length)] h2 :=
        asg_ok (i := 3) ((call_ok (ds := [.int (cs.getD i 0), .int (i : Nat)]) rfl).trans e2) (by simp)
      have t1 : tOf (eCall s__law_right (aCons (eVar 3) (aCons (eCall s__law_drawn (aCons (eVar 3) (aCons (eC (.int 9)) aNil))) aNil))) [some (.ref 0), some (.int (i : Nat)), some (.int (cs.getD i 0)), some (.ref h1.length)] h2 = .ok true h5 := by
        refine tOf_ok ((call_ok (ds := [.ref h1.length, tI xs]) (cons_ok rfl (cons_ok ((call_ok (ds := [.ref h1.length, .int 9]) rfl).trans e4) rfl))).trans e5)
      have s2 : sIf (tNotD (tOf (eCall s__law_right (aCons (eVar 3) (aCons (eCall s__law_drawn (aCons (eVar 3) (aCons (eC (.int 9)) aNil))) aNil))))) (sRet (eC (.bl false))) sNil [some (.ref 0), some (.int (i : Nat)), some (.int (cs.getD i 0)), some (.ref h1.length)] h2 = .nx [some (.ref 0), some (.int (i : Nat)), some (.int (cs.getD i 0)), some (.ref h1.length)] h5 := by
        refine if_ff ?_
        show (tOf _ _ h2).bind _ = _
        rw [t1]
        rfl
      show (match sSeq (sAsg (eCall s__law_draw (aCons (eVar 2) (aCons (eVar 1) aNil))) (gSet 3)) _ [some (.ref 0), some (.int (i : Nat)), some (.int (cs.getD i 0)), c] h1 with
        | .ct env2 h2 => SRes.nx env2 h2
        | r => r) = _
      rw [(seq_nx s1).trans s2]
  · rintro env h1 ⟨_, q⟩
    refine enm_stop ?_
    have := live_stop (h := h1) (.inl q)
    rwa [List.length_map] at this
theorem law_true (ns : List Int) : ∃ h', s_law [.ref 0] [.fro (ns.map .int)] = .ok (.bl true) h' := by
  obtain ⟨h1, a, b, c, e0⟩ := law0 ns
  let T : List Int := List.replicate 24 1000
  have hT : Sm T := fun x hx => by
    have := List.eq_of_mem_replicate hx
    omega
  have lT : T.length = 24 := List.length_replicate
  obtain ⟨g3, e3⟩ := law_continuant_ok T hT (by omega) (h1 ++ [.lst [], .lst []])
  have m1 : ∀ h, eOp gMul (eTup (aCons (eC (.int 1000)) aNil)) (eC (.int 24)) [some (.ref 0), a, b, c] h = .ok (tI T) h := fun h => by
    refine (op_ok (x := .tup [.int 1000]) (y := .int 24) rfl rfl).trans ?_
    rfl
  have hN : Sm ([] : List Int) := fun x hx => by cases hx
  have x1 : eOp gEq (eCall s_continuant (aCons (eOp gMul (eTup (aCons (eC (.int 1000)) aNil)) (eC (.int 24))) aNil)) (eCall s__law_continuant (aCons (eOp gMul (eTup (aCons (eC (.int 1000)) aNil)) (eC (.int 24))) aNil)) [some (.ref 0), a, b, c] h1 = .ok (.bl true) (h1 ++ [.lst [], .lst []] ++ g3) :=
    (op_ok ((call_ok (cons_ok (m1 _) rfl)).trans (continuant_ok T hT (by omega) h1)) ((call_ok (cons_ok (m1 _) rfl)).trans e3)).trans eq_ii
  have x2 : ∀ h, eOp gEq (eCall s_continuant (aCons (eTup aNil) aNil)) (eC (.int 1)) [some (.ref 0), a, b, c] h = .ok (.bl true) (h ++ [.lst [], .lst []]) := fun h =>
    (op_ok (y := .int 1) ((call_ok (ds := [tI []]) rfl).trans (continuant_ok [] hN (by decide) h)) rfl).trans eq_ii
  refine ⟨h1 ++ [.lst [], .lst []] ++ g3 ++ [.lst [], .lst []], run_rt [some (.ref 0), none, none, none] ?_⟩
  unfold b_law
  refine (seq_nx e0).trans ?_
  unfold b_law_1
  refine ret_ok ?_
  show (eOp gEq _ _ _ _).bind _ = _
  rw [x1]
  exact x2 _
end Lw

set_option Elab.async false
set_option linter.all false
set_option maxRecDepth 100000
set_option maxHeartbeats 0
namespace Lw
open PySem PySem.Spec PyProof.Rows L2 Mi
abbrev R : PySem.W.OpenRow := PySem.W.OpenLaw.row PySem.Challenge.rw_alwayswhole_k56_whole_friezes
abbrev hk : PySem.W.Hook := hookM 6 fs fn
def ob (s : PySem.W.SharedT) : He.AlD := obsM 6 fs fn (HandSHeadRun.getT s)
theorem ob_eq (s : PySem.W.SharedT) : ob s = hk.obs s.abs := obsM_eq (HandSHeadRun.getT_eq s)
def loose : List PySem.Str := (["WholeError", "BadNumber", "BadRow", "BadFrieze", "is_whole", "MOST_ORDER", "MOST_PART", "own_continuant", "wrong_numbers", "need_numbers", "continuant", "need_quiddity", "own_line", "own_entry", "entry_of", "own_frieze", "frieze_of", "own_closed", "is_closed", "own_whole"] : List PySem.Str) ++ (["is_whole_frieze", "trace_of", "own_trace", "_law_mixed", "_law_draw", "_law_digit", "_law_order", "_law_quiddity", "_law_drawn", "_law_continuant", "_law_table", "_law_between", "_law_right", "_law_refused"] : List PySem.Str)
theorem run (w : World) : HandSHeadRun.RunEq R (PySem.W.view R.prog [38]) hk ob 6000 loose w := by
  intro os
  kernel_rfl
end Lw

set_option Elab.async false
set_option linter.all false
set_option maxRecDepth 100000
set_option maxHeartbeats 0
namespace Lw
open PySem PySem.Spec PyProof.Rows L2 Mi
theorem ends {P : Program} {w : World} {K : PySem.W.Frag} {h : Heap} {mg : Str → Option Value} {f : Addr} (X : K.In h) (z : obsK fs fn K = He.valD fn) (G : h.Ns mainGlobals mg) (hfa : mg ("law" : Str) = some (.ref f)) :
    ∃ fd : FuncData, (∀ (s : Shared) (u : Value), BindsTo s fd ⟨[u], []⟩ [("script", u)]) ∧ ∀ base : Heap, K.In base → base.Ns mainGlobals mg → FnG P w K mg base (L2.CX P w) 8 f fd ["script"] (spD (rx K mg) 1 s_law) := by
  have c := mkF X G z
  have e := hfa.symm.trans c.m_law
  cases e
  obtain ⟨fd, F⟩ := c.F_law
  have b := FunD.bindsA (ps := ["script"]) F fun _ _ _ _ _ _ us hl => match us, hl with | [_], _ => rfl
  refine ⟨fd, fun s u => b s [u] rfl, fun base _ _ => ?_⟩
  obtain ⟨fd', F', hF⟩ := (ok_law (P := P) (w := w) (base := base) c).ex
  have e2 : fd = fd' := by
    obtain ⟨_, _, _, _, _, _, _, _, _, _, rfl, l1, _, _, _⟩ := F.ex
    obtain ⟨_, _, _, _, _, _, _, _, _, _, rfl, l2, _, _, _⟩ := F'.ex
    rw [l1] at l2
    cases l2
    rfl
  subst e2
  exact hF
end Lw
open PySem PySem.W PySem.Calls PyProof.Rows
theorem final (hm : ∀ ns : List Int, ns.length ≤ 63 → (∀ z ∈ ns, Builtin.Int.intBits z ≤ 1048576) → ∃ h', Lw.s_law [.ref 0] [.fro (ns.map .int)] = .ok (.bl true) h') : PySem.Challenge.rw_alwayswhole_k56_whole_friezes.Holds := by
  w_on; o_law
  refine HandSHeadRun.head_any (r := OpenLaw.row PySem.Challenge.rw_alwayswhole_k56_whole_friezes) (q := view (OpenLaw.row PySem.Challenge.rw_alwayswhole_k56_whole_friezes).prog [38]) (H := Lw.hk) (ob := Lw.ob) (M := 6000) (loose := Lw.loose) (d := HandSHeadRun.topDef (OpenLaw.row PySem.Challenge.rw_alwayswhole_k56_whole_friezes).prog 38) (kwd := []) Lw.ob_eq
    (by kernel_rfl) (fun s => by kernel_rfl) Lw.run (by kernel_rfl) (by kernel_rfl) (by kernel_rfl) (by rfl) (by first | assumption | decide +kernel) (by decide +kernel) ⟨rfl, rfl, rfl, rfl, rfl, by decide +kernel⟩ ?hw ?hc
  case hw => w_witness2
  case hc =>
    refine Mi.walk_ofG (l := PySem.Challenge.rw_alwayswhole_k56_whole_friezes) (n := 63) (k := 8) (x := "script") rfl (by decide) (by kernel_rfl) ⟨⟨rfl, by decide, by decide⟩, rfl⟩ ?F
    intro w mg fa h K X z G hmg0
    have hmg : mg ("law" : PySem.Str) = some (.ref fa) := by
      have e : (HandSHeadRun.topDef (OpenLaw.row PySem.Challenge.rw_alwayswhole_k56_whole_friezes).prog 38).name = ("law" : PySem.Str) := by kernel_rfl
      rw [← e]
      exact hmg0
    obtain ⟨fd, hb, hF⟩ := Lw.ends (P := (PySem.Challenge.rw_alwayswhole_k56_whole_friezes).prog) (w := w) X z G hmg
    exact ⟨fd, Lw.s_law, hb, hm, hF⟩

set_option maxHeartbeats 0
theorem PySem.Challenge.cw_alwayswhole_k56_whole_friezes_holds : PySem.Challenge.rw_alwayswhole_k56_whole_friezes.Holds := by
  exact final fun ns _ _ => Lw.law_true ns
