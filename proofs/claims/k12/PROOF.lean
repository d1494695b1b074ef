import PyProof.Rows.All
import Wide.All
import OpenK.AllK
import Wide.FinOn
import PyProof.EqAt
import PyProof.EqKinds
import PyProof.TupleCall
import HandS.ForMost
import HandS.ForExc
import HandS.IsInst
import HandS.Flow
import HandS.TupAny
import HandS.Style
import HandS.More
import HandS.Wide
import HandS.TupLe
import HandS.Text
import KE.DataCmp
import KE.DataEq
import PyProof.Rows.IntBool
import HandS.Zip
import KE.GoesMore
import KE.GoesEnum
import KE.GoesZip
import KE.SortData
import KE.DataMinMax
import PySem.Challenge.RW_binround_k12_whole_days_send_the_least
set_option Elab.async false
set_option linter.all false
set_option maxRecDepth 100000
set_option maxHeartbeats 2000000
/-! Bz, first part: deep values, the store, how they lie in the layer's heap. -/
namespace Bz
open PySem PySem.Spec PyProof.Rows L2

/-- a deep value: what never changes as a tree, the rest by its place in the store -/
inductive D where
  | non | bl (b : Bool) | int (i : Int) | str (x : Str) | tup (xs : List D) | rol (xs : List D) | loc (n : Nat) | fn (x : Str)
/-- what stands in the store -/
inductive Ob where
  | lst (xs : List D)
abbrev Sto := List Ob
abbrev Mp := Nat → Option Addr

structure Gm where
  K : PySem.W.Frag
  mg : Str → Option Value

/-- a list that is never changed (the script) -/
def SqF (K : PySem.W.Frag) (H : Hp) (a : Addr) (xs : List V) : Prop := (∃ o, H a = some (.frz o (.lst xs))) ∨
    ∃ (o : Obj) (its : Array Value) (n : Nat), K.lookup a = some o ∧ o.cls = .type "list" ∧ o.dict = none ∧ o.data = .seq its n ∧ its.size ≤ sizeLine ∧ Vals xs its.toList
theorem SqF.l {K : PySem.W.Frag} {H : Hp} {a : Addr} {xs : List V} (h : SqF K H a xs) : SqL K H a xs := by
  rcases h with h | h
  · exact .inl (.inr h)
  · exact .inr h
mutual
inductive R (G : Gm) (μ : Mp) (H : Hp) : D → V → Prop
  | non : R G μ H .non .non
  | bl (b : Bool) : R G μ H (.bl b) (.bl b)
  | int (i : Int) : R G μ H (.int i) (.int i)
  | str (x : Str) : R G μ H (.str x) (.str x)
  | tup {ds : List D} {a : Addr} {vs : List V} (h : SqT G.K H a vs) (r : Rs G μ H ds vs) : R G μ H (.tup ds) (.ref a)
  | rol {ds : List D} {a : Addr} {vs : List V} (h : SqF G.K H a vs) (r : Rs G μ H ds vs) : R G μ H (.rol ds) (.ref a)
  | loc {n : Nat} {a : Addr} (h : μ n = some a) : R G μ H (.loc n) (.ref a)
  | fn {x : Str} {a : Addr} (h : G.mg x = some (.ref a)) (k : PySem.W.keepIn G.K (.ref a) = true) : R G μ H (.fn x) (.ref a)
inductive Rs (G : Gm) (μ : Mp) (H : Hp) : List D → List V → Prop
  | nil : Rs G μ H [] []
  | cons {d : D} {v : V} {ds : List D} {vs : List V} (h : R G μ H d v) (t : Rs G μ H ds vs) : Rs G μ H (d :: ds) (v :: vs)
end

section
variable {G : Gm} {μ μ' : Mp} {H H' : Hp}
mutual
theorem R.mono (hm : ∀ n a, μ n = some a → μ' n = some a) (ht : ∀ a xs, SqT G.K H a xs → SqT G.K H' a xs) (hf : ∀ a xs, SqF G.K H a xs → SqF G.K H' a xs) : ∀ {d : D} {v : V}, R G μ H d v → R G μ' H' d v
  | _, _, .non => .non
  | _, _, .bl b => .bl b
  | _, _, .int i => .int i
  | _, _, .str x => .str x
  | _, _, .tup h r => .tup (ht _ _ h) (Rs.mono hm ht hf r)
  | _, _, .rol h r => .rol (hf _ _ h) (Rs.mono hm ht hf r)
  | _, _, .loc h => .loc (hm _ _ h)
  | _, _, .fn h k => .fn h k
theorem Rs.mono (hm : ∀ n a, μ n = some a → μ' n = some a) (ht : ∀ a xs, SqT G.K H a xs → SqT G.K H' a xs) (hf : ∀ a xs, SqF G.K H a xs → SqF G.K H' a xs) : ∀ {ds : List D} {vs : List V}, Rs G μ H ds vs → Rs G μ' H' ds vs
  | _, _, .nil => .nil
  | _, _, .cons h t => .cons (R.mono hm ht hf h) (Rs.mono hm ht hf t)
end
theorem Rs.length : ∀ {ds : List D} {vs : List V}, Rs G μ H ds vs → ds.length = vs.length
  | _, _, .nil => rfl
  | _, _, .cons _ t => by rw [List.length_cons, List.length_cons, Rs.length t]
theorem Rs.get : ∀ {ds : List D} {vs : List V} {i : Nat} {d : D}, Rs G μ H ds vs → ds[i]? = some d → ∃ v, vs[i]? = some v ∧ R G μ H d v
  | _, _, _, _, .nil, e => by simp at e
  | _, _, 0, _, .cons h _, e => by simp at e; subst e; exact ⟨_, rfl, h⟩
  | _, _, i + 1, d, .cons _ t, e => by
    obtain ⟨v, h1, h2⟩ := Rs.get (i := i) (d := d) t (by simpa using e)
    exact ⟨v, by simpa using h1, h2⟩
theorem Rs.getV : ∀ {ds : List D} {vs : List V} {i : Nat} {v : V}, Rs G μ H ds vs → vs[i]? = some v → ∃ d, ds[i]? = some d ∧ R G μ H d v
  | _, _, _, _, .nil, e => by simp at e
  | _, _, 0, _, .cons h _, e => by simp at e; subst e; exact ⟨_, rfl, h⟩
  | _, _, i + 1, v, .cons _ t, e => by
    obtain ⟨d, h1, h2⟩ := Rs.getV (i := i) (v := v) t (by simpa using e)
    exact ⟨d, by simpa using h1, h2⟩
theorem Rs.append : ∀ {ds es : List D} {vs ws : List V}, Rs G μ H ds vs → Rs G μ H es ws → Rs G μ H (ds ++ es) (vs ++ ws)
  | _, _, _, _, .nil, s => s
  | _, _, _, _, .cons h t, s => .cons h (Rs.append t s)
theorem Rs.take : ∀ {ds : List D} {vs : List V} (n : Nat), Rs G μ H ds vs → Rs G μ H (ds.take n) (vs.take n)
  | _, _, 0, _ => .nil
  | _, _, _ + 1, .nil => .nil
  | _, _, n + 1, .cons h t => .cons h (Rs.take n t)
theorem Rs.drop : ∀ {ds : List D} {vs : List V} (n : Nat), Rs G μ H ds vs → Rs G μ H (ds.drop n) (vs.drop n)
  | _, _, 0, r => r
  | _, _, _ + 1, .nil => .nil
  | _, _, n + 1, .cons _ t => Rs.drop n t
theorem Rs.set {d : D} {v : V} (r : R G μ H d v) : ∀ {ds : List D} {vs : List V} (i : Nat), Rs G μ H ds vs → Rs G μ H (ds.set i d) (vs.set i v)
  | _, _, _, .nil => .nil
  | _, _, 0, .cons _ t => .cons r t
  | _, _, i + 1, .cons q t => .cons q (Rs.set r i t)
theorem Rs.eraseIdx : ∀ {ds : List D} {vs : List V} (i : Nat), Rs G μ H ds vs → Rs G μ H (ds.eraseIdx i) (vs.eraseIdx i)
  | _, _, _, .nil => .nil
  | _, _, 0, .cons _ t => t
  | _, _, i + 1, .cons q t => .cons q (Rs.eraseIdx i t)
theorem Rs.one {d : D} {v : V} (r : R G μ H d v) : Rs G μ H [d] [v] := .cons r .nil
theorem Rs.reverse : ∀ {ds : List D} {vs : List V}, Rs G μ H ds vs → Rs G μ H ds.reverse vs.reverse
  | _, _, .nil => .nil
  | _, _, .cons h t => by
    rw [List.reverse_cons, List.reverse_cons]
    exact (Rs.reverse t).append (Rs.one h)
theorem Rs.zip_of : ∀ {ds es : List D} {vs ws : List V}, Rs G μ H ds vs → Rs G μ H es ws → ds.length = es.length → vs.length = ws.length := fun a b h => by
  rw [← a.length, ← b.length, h]
theorem Rs.ints : ∀ {ns : List Int} {vs : List V}, Rs G μ H (ns.map D.int) vs → vs = ns.map V.int
  | [], _, h => by cases h; rfl
  | n :: ns, _, h => by
    cases h with
    | cons h t => cases h; rw [Rs.ints t]; rfl
theorem Rs.of_ints : ∀ (ns : List Int), Rs G μ H (ns.map D.int) (ns.map V.int)
  | [] => .nil
  | n :: ns => .cons (.int n) (Rs.of_ints ns)
theorem Rs.strs : ∀ {ns : List Str} {vs : List V}, Rs G μ H (ns.map D.str) vs → vs = ns.map V.str
  | [], _, h => by cases h; rfl
  | n :: ns, _, h => by
    cases h with
    | cons h t => cases h; rw [Rs.strs t]; rfl
theorem Rs.of_strs : ∀ (ns : List Str), Rs G μ H (ns.map D.str) (ns.map V.str)
  | [] => .nil
  | n :: ns => .cons (.str n) (Rs.of_strs ns)
theorem Rs.bls : ∀ {ns : List Bool} {vs : List V}, Rs G μ H (ns.map D.bl) vs → vs = ns.map V.bl
  | [], _, h => by cases h; rfl
  | n :: ns, _, h => by
    cases h with
    | cons h t => cases h; rw [Rs.bls t]; rfl
end

/-! ### the store's objects -/
def ObR (G : Gm) (μ : Mp) (H : Hp) (a : Addr) : Ob → Prop
  | .lst xs => ∃ vs, H a = some (.lst vs) ∧ Rs G μ H xs vs

structure Wd (G : Gm) (μ : Mp) (H : Hp) (S : Sto) : Prop where
  dom : ∀ n, n < S.length → ∃ a, μ n = some a
  lt : ∀ n a, μ n = some a → n < S.length
  inj : ∀ n m a, μ n = some a → μ m = some a → n = m
  obj : ∀ n a o, μ n = some a → S[n]? = some o → ObR G μ H a o

/-- how things go on -/
structure Le (μ : Mp) (H : Hp) (μ' : Mp) (H' : Hp) : Prop where
  mono : ∀ n a, μ n = some a → μ' n = some a
  new : ∀ n a, μ' n = some a → μ n = some a ∨ H a = none
  kept : ∀ a o, H a = some o → (∀ n, μ n ≠ some a) → H' a = some o
  frz : ∀ a o u, H a = some (.frz o u) → H' a = some (.frz o u)
  trk : ∀ a o, H a = some o → ∃ o', H' a = some o'

section
variable {G : Gm} {μ μ' μ'' : Mp} {H H' H'' : Hp} {S S' : Sto}
theorem Le.refl : Le μ H μ H := ⟨fun _ _ h => h, fun _ _ h => .inl h, fun _ _ h _ => h, fun _ _ _ h => h, fun _ o h => ⟨o, h⟩⟩
theorem Le.free (l : Le μ H μ' H') {a : Addr} (h : H' a = none) : H a = none := by
  cases q : H a with
  | none => rfl
  | some o =>
    obtain ⟨o', e⟩ := l.trk a o q
    rw [h] at e; cases e
theorem Le.trans (a : Le μ H μ' H') (b : Le μ' H' μ'' H'') : Le μ H μ'' H'' where
  mono := fun n x h => b.mono n x (a.mono n x h)
  new := fun n x h => by
    rcases b.new n x h with h | h
    · exact a.new n x h
    · exact .inr (a.free h)
  kept := fun x o h hn => b.kept x o (a.kept x o h hn) fun n z => by
    rcases a.new n x z with q | q
    · exact hn n q
    · rw [q] at h; cases h
  frz := fun x o u h => b.frz x o u (a.frz x o u h)
  trk := fun x o h => by
    obtain ⟨o', e⟩ := a.trk x o h
    exact b.trk x o' e
theorem Wd.look (w : Wd G μ H S) {n : Nat} {a : Addr} (h : μ n = some a) : ∃ o, S[n]? = some o ∧ ObR G μ H a o := by
  have := w.lt n a h
  exact ⟨S[n], List.getElem?_eq_getElem this, w.obj n a _ h (List.getElem?_eq_getElem this)⟩
theorem Wd.notTup (w : Wd G μ H S) {n : Nat} {a : Addr} {xs : List V} (h : μ n = some a) : H a ≠ some (.tup xs) := fun z => by
  obtain ⟨o, _, r⟩ := w.look h
  cases o with
  | lst ys => obtain ⟨vs, e, _⟩ := r; rw [e] at z; cases z
theorem Wd.there (w : Wd G μ H S) {n : Nat} {a : Addr} (h : μ n = some a) : ∃ o, H a = some o := by
  obtain ⟨o, _, r⟩ := w.look h
  cases o with
  | lst ys => obtain ⟨vs, e, _⟩ := r; exact ⟨_, e⟩
theorem Wd.free (w : Wd G μ H S) {a : Addr} (h : H a = none) (n : Nat) : μ n ≠ some a := fun z => by
  obtain ⟨o, e⟩ := w.there z
  rw [h] at e; cases e
theorem Le.sqT (l : Le μ H μ' H') (w : Wd G μ H S) {a : Addr} {xs : List V} (h : SqT G.K H a xs) : SqT G.K H' a xs := by
  rcases h with (h | ⟨o, h⟩) | h
  · exact .inl (.inl (l.kept _ _ h fun n z => w.notTup z h))
  · exact .inl (.inr ⟨o, l.frz _ _ _ h⟩)
  · exact .inr h
theorem Le.sqF (l : Le μ H μ' H') {a : Addr} {xs : List V} (h : SqF G.K H a xs) : SqF G.K H' a xs := by
  rcases h with ⟨o, h⟩ | h
  · exact .inl ⟨o, l.frz _ _ _ h⟩
  · exact .inr h
theorem Le.r (l : Le μ H μ' H') (w : Wd G μ H S) {d : D} {v : V} (h : R G μ H d v) : R G μ' H' d v := h.mono l.mono (fun _ _ q => l.sqT w q) fun _ _ q => l.sqF q
theorem Le.rs (l : Le μ H μ' H') (w : Wd G μ H S) {ds : List D} {vs : List V} (h : Rs G μ H ds vs) : Rs G μ' H' ds vs := h.mono l.mono (fun _ _ q => l.sqT w q) fun _ _ q => l.sqF q
theorem ObR.keep (l : Le μ H μ' H') (w : Wd G μ H S) {a : Addr} {o : Ob} (e : H' a = H a) (h : ObR G μ H a o) : ObR G μ' H' a o := by
  cases o with
  | lst ys => obtain ⟨vs, q, r⟩ := h; exact ⟨vs, e.trans q, l.rs w r⟩

/-- something new is laid that the store does not know -/
theorem Le.laid {p : Addr} {o : HO} (h : H p = none) : Le μ H μ (upd H p o) where
  mono := fun _ _ h => h
  new := fun _ _ h => .inl h
  kept := fun a u e _ => by rw [upd_ne (ne_of_none e h)]; exact e
  frz := fun a u x e => by rw [upd_ne (ne_of_none e h)]; exact e
  trk := fun a u e => ⟨u, by rw [upd_ne (ne_of_none e h)]; exact e⟩
theorem Wd.laid {p : Addr} {o : HO} (w : Wd G μ H S) (h : H p = none) : Wd G μ (upd H p o) S where
  dom := w.dom
  lt := w.lt
  inj := w.inj
  obj := fun n a ob hn hs => by
    have q := w.obj n a ob hn hs
    exact ObR.keep (Le.laid h) w (upd_ne fun z => by subst z; exact w.free h n hn) q

def put (μ : Mp) (n : Nat) (p : Addr) : Mp := fun m => if m = n then some p else μ m
theorem put_self {n : Nat} {p : Addr} : put μ n p n = some p := by unfold put; rw [if_pos rfl]
theorem put_ne {n m : Nat} {p : Addr} (h : m ≠ n) : put μ n p m = μ m := by unfold put; rw [if_neg h]
theorem Wd.none_at (w : Wd G μ H S) : μ S.length = none := by
  cases q : μ S.length with
  | none => rfl
  | some a => exact absurd (w.lt _ _ q) (Nat.lt_irrefl _)
theorem put_mono (w : Wd G μ H S) {p : Addr} (n : Nat) (a : Addr) (h : μ n = some a) : put μ S.length p n = some a := by
  rw [put_ne fun z => by subst z; rw [w.none_at] at h; cases h]; exact h
/-- an object that stands outside the store comes into it -/
theorem Wd.settle {p : Addr} {o : Ob} (w : Wd G μ H S) (hp : ∀ n, μ n ≠ some p) (ho : ObR G μ H p o) : Wd G (put μ S.length p) H (S ++ [o]) where
  dom := fun n hn => by
    by_cases e : n = S.length
    · subst e; exact ⟨p, put_self⟩
    · rw [put_ne e]
      rw [List.length_append, List.length_singleton] at hn
      exact w.dom n (by omega)
  lt := fun n a h => by
    rw [List.length_append, List.length_singleton]
    by_cases e : n = S.length
    · omega
    · rw [put_ne e] at h
      have := w.lt n a h
      omega
  inj := fun n m a h1 h2 => by
    by_cases e1 : n = S.length
    · by_cases e2 : m = S.length
      · omega
      · subst e1
        rw [put_self] at h1; cases h1
        rw [put_ne e2] at h2
        exact absurd h2 (hp m)
    · by_cases e2 : m = S.length
      · subst e2
        rw [put_self] at h2; cases h2
        rw [put_ne e1] at h1
        exact absurd h1 (hp n)
      · rw [put_ne e1] at h1
        rw [put_ne e2] at h2
        exact w.inj n m a h1 h2
  obj := fun n a ob h hs => by
    have mono : ∀ n a, μ n = some a → put μ S.length p n = some a := fun n a => put_mono w n a
    have key : ∀ {a : Addr} {ob : Ob}, ObR G μ H a ob → ObR G (put μ S.length p) H a ob := fun {a ob} q => by
      cases ob with
      | lst ys => obtain ⟨vs, q, r⟩ := q; exact ⟨vs, q, r.mono mono (fun _ _ h => h) fun _ _ h => h⟩
    by_cases e : n = S.length
    · subst e
      rw [put_self] at h; cases h
      rw [List.getElem?_append_right (Nat.le_refl _), Nat.sub_self] at hs
      cases hs
      exact key ho
    · rw [put_ne e] at h
      rw [List.getElem?_append_left (w.lt n a h)] at hs
      exact key (w.obj n a ob h hs)
theorem Le.settle {μ0 : Mp} {H0 : Hp} {p : Addr} (w : Wd G μ H S) (l : Le μ0 H0 μ H) (h : H0 p = none) : Le μ0 H0 (put μ S.length p) H where
  mono := fun n a q => put_mono w n a (l.mono n a q)
  new := fun n a q => by
    by_cases e : n = S.length
    · subst e
      rw [put_self] at q; cases q
      exact .inr h
    · rw [put_ne e] at q
      exact l.new n a q
  kept := l.kept
  frz := l.frz
  trk := l.trk
/-- a list of the store is changed -/
theorem Le.write {n : Nat} {a : Addr} {vs ws : List V} (hn : μ n = some a) (h : H a = some (.lst vs)) : Le μ H μ (upd H a (.lst ws)) where
  mono := fun _ _ h => h
  new := fun _ _ h => .inl h
  kept := fun b u e q => by rw [upd_ne fun z => by subst z; exact q n hn]; exact e
  frz := fun b u x e => by rw [upd_ne fun z => by subst z; rw [h] at e; cases e]; exact e
  trk := fun b u e => by
    by_cases z : b = a
    · subst z; exact ⟨_, upd_same⟩
    · exact ⟨u, by rw [upd_ne z]; exact e⟩
theorem Wd.write {n : Nat} {a : Addr} {vs ws : List V} {ys : List D} (w : Wd G μ H S) (hn : μ n = some a) (h : H a = some (.lst vs)) (r : Rs G μ H ys ws) : Wd G μ (upd H a (.lst ws)) (S.set n (.lst ys)) where
  dom := fun m hm => w.dom m (by simpa using hm)
  lt := fun m b q => by rw [List.length_set]; exact w.lt m b q
  inj := w.inj
  obj := fun m b ob hm hs => by
    have l : Le μ H μ (upd H a (.lst ws)) := Le.write hn h
    by_cases e : m = n
    · subst e
      rw [hn] at hm; cases hm
      rw [List.getElem?_set_self (w.lt _ _ hn)] at hs
      cases hs
      exact ⟨ws, upd_same, l.rs w r⟩
    · rw [List.getElem?_set_ne (Ne.symm e)] at hs
      have ne : b ≠ a := fun z => by subst z; exact e (w.inj _ _ _ hm hn)
      exact ObR.keep l w (upd_ne ne) (w.obj m b ob hm hs)
end

/-! ### outcomes -/
/-- an exception: its class, its fields -/
structure Exn where
  cls : Str
  fs : List D
inductive Res (α : Type) where
  | ok (a : α) (S : Sto) | exc (e : Exn) (S : Sto) | bad
def bnd {α β : Type} (r : Res α) (f : α → Sto → Res β) : Res β := match r with
  | .ok a S => f a S
  | .exc e S => .exc e S
  | .bad => .bad
def Post {α : Type} (r : Res α) (Q : α → Sto → Prop) (E : Exn → Sto → Prop) : Prop := match r with
  | .ok a S => Q a S
  | .exc e S => E e S
  | .bad => False
theorem post_bnd {α β : Type} {r : Res α} {f : α → Sto → Res β} {Q : β → Sto → Prop} {E : Exn → Sto → Prop} : Post (bnd r f) Q E ↔ Post r (fun a S => Post (f a S) Q E) E := by
  cases r <;> exact Iff.rfl
theorem Post.imp {α : Type} {r : Res α} {Q Q' : α → Sto → Prop} {E E' : Exn → Sto → Prop} (h : Post r Q E) (hq : ∀ a S, Q a S → Q' a S) (he : ∀ e S, E e S → E' e S) : Post r Q' E' := by
  cases r with
  | ok a S => exact hq a S h
  | exc e S => exact he e S h
  | bad => exact h

/-- a value, or a list just made that nothing else knows -/
inductive Rv where
  | val (d : D) | new (xs : List D)
abbrev Env := List (Option D)
abbrev ExM := Env → Sto → Res Rv
abbrev ArM := Env → Sto → Res (List D)
abbrev TsM := Env → Sto → Res Bool

def EnvR (G : Gm) (μ : Mp) (H : Hp) (env : Env) (σ : L2.St) : Prop := env.length = σ.length ∧ ∀ (i : Nat) (d : D), env[i]? = some (some d) → ∃ v, σ[i]? = some (some v) ∧ R G μ H d v
def Rx (G : Gm) (H0 : Hp) (μ : Mp) (H : Hp) : Rv → V → Prop
  | .val d, v => R G μ H d v
  | .new xs, v => ∃ a vs, v = .ref a ∧ H a = some (.lst vs) ∧ (∀ n, μ n ≠ some a) ∧ H0 a = none ∧ Rs G μ H xs vs
/-- how an exception of ours lies: its class's address, its dict's -/
def ExcR (G : Gm) (μ : Mp) (H : Hp) (e : Exn) (c : Value) (d : Option Addr) : Prop := False

section
variable {G : Gm} {μ μ' μ'' : Mp} {H H' H'' H0 : Hp} {S S' : Sto} {env : Env} {σ : L2.St}
theorem Le.envR (l : Le μ H μ' H') (w : Wd G μ H S) (h : EnvR G μ H env σ) : EnvR G μ' H' env σ :=
  ⟨h.1, fun i d e => let ⟨v, e', r⟩ := h.2 i d e; ⟨v, e', l.r w r⟩⟩
theorem Le.rx (l : Le μ H μ' H') (w : Wd G μ H S) {x : Rv} {v : V} (h : Rx G H0 μ H x v) : Rx G H0 μ' H' x v := by
  cases x with
  | val d => exact l.r w h
  | new xs =>
    obtain ⟨a, vs, e, ha, hn, h0, r⟩ := h
    refine ⟨a, vs, e, l.kept _ _ ha hn, fun n z => ?_, h0, l.rs w r⟩
    rcases l.new n a z with q | q
    · exact hn n q
    · rw [q] at ha; cases ha
theorem Le.rx0 (l : Le μ H μ' H') {x : Rv} {v : V} (h : Rx G H' μ'' H'' x v) : Rx G H μ'' H'' x v := by
  cases x with
  | val d => exact h
  | new xs =>
    obtain ⟨a, vs, e, ha, hn, h0, r⟩ := h
    exact ⟨a, vs, e, ha, hn, l.free h0, r⟩
end
end Bz

set_option Elab.async false
set_option linter.all false
set_option maxRecDepth 100000
set_option maxHeartbeats 2000000
/-! Bz, second part: expressions. -/
namespace Bz
open PySem PySem.Spec PyProof.Rows L2

/-- texts, lists and tuples stay below this -/
def big : Nat := 1000000
theorem big_le {n : Nat} (h : n ≤ big) : n ≤ sizeLine := Nat.le_trans h (by decide)
theorem big_lt {n : Nat} (h : n < big) : n < sizeLine := Nat.lt_of_lt_of_le h (by decide)

section
variable (G : Gm) (E : XK)
def Gd (μ : Mp) (H : Hp) (Q : VK) : Rv → Sto → Prop := fun x S' => ∀ v H' μ', Le μ H μ' H' → Wd G μ' H' S' → Rx G H μ' H' x v → Q v H'
def Gds (μ : Mp) (H : Hp) (Q : List V → Hp → Prop) : List D → Sto → Prop := fun x S' => ∀ v H' μ', Le μ H μ' H' → Wd G μ' H' S' → Rs G μ' H' x v → Q v H'
def Gdt (μ : Mp) (H : Hp) (Q : Bool → Hp → Prop) : Bool → Sto → Prop := fun x S' => ∀ H' μ', Le μ H μ' H' → Wd G μ' H' S' → Q x H'
def ExP (μ : Mp) (H : Hp) : Exn → Sto → Prop := fun e S' => ∀ c d H' μ', Le μ H μ' H' → Wd G μ' H' S' → ExcR G μ' H' e c d → E c d H'
def tD (f : ExM) : TE := fun σ H Q => ∃ μ S env, Wd G μ H S ∧ EnvR G μ H env σ ∧ Post (f env S) (Gd G μ H Q) (ExP G E μ H)
def tAr (f : ArM) : TA := fun σ H Q => ∃ μ S env, Wd G μ H S ∧ EnvR G μ H env σ ∧ Post (f env S) (Gds G μ H Q) (ExP G E μ H)
def tTs (f : TsM) : TT := fun σ H Q => ∃ μ S env, Wd G μ H S ∧ EnvR G μ H env σ ∧ Post (f env S) (Gdt G μ H Q) (ExP G E μ H)
end
section
variable {G : Gm} {E : XK} {μ μ' μ1 : Mp} {H H' H1 : Hp} {S S' : Sto} {env : Env} {σ : L2.St}
theorem Gd.up {Q : VK} (l : Le μ H μ1 H1) {x : Rv} (h : Gd G μ H Q x S) : Gd G μ1 H1 Q x S := fun v H' μ' l' w r => h v H' μ' (l.trans l') w (l.rx0 r)
theorem Gds.up {Q : List V → Hp → Prop} (l : Le μ H μ1 H1) {x : List D} (h : Gds G μ H Q x S) : Gds G μ1 H1 Q x S := fun v H' μ' l' w r => h v H' μ' (l.trans l') w r
theorem Gdt.up {Q : Bool → Hp → Prop} (l : Le μ H μ1 H1) {x : Bool} (h : Gdt G μ H Q x S) : Gdt G μ1 H1 Q x S := fun H' μ' l' w => h H' μ' (l.trans l') w
theorem ExP.up (l : Le μ H μ1 H1) {e : Exn} (h : ExP G E μ H e S) : ExP G E μ1 H1 e S := fun c d H' μ' l' w r => h c d H' μ' (l.trans l') w r
/-- an expression goes on with what is asked of its value -/
theorem tD_go {f : ExM} {Q : VK} {P : Rv → Sto → Prop} (w : Wd G μ H S) (er : EnvR G μ H env σ) (h : Post (f env S) P (ExP G E μ H))
    (k : ∀ x S1 v H1 μ1, Le μ H μ1 H1 → Wd G μ1 H1 S1 → EnvR G μ1 H1 env σ → Rx G H μ1 H1 x v → P x S1 → Q v H1) : tD G E f σ H Q :=
  ⟨μ, S, env, w, er, h.imp (fun x S1 p v H1 μ1 l w1 r => k x S1 v H1 μ1 l w1 (l.envR w er) r p) fun _ _ z => z⟩
theorem tAr_go {f : ArM} {Q : List V → Hp → Prop} {P : List D → Sto → Prop} (w : Wd G μ H S) (er : EnvR G μ H env σ) (h : Post (f env S) P (ExP G E μ H))
    (k : ∀ x S1 v H1 μ1, Le μ H μ1 H1 → Wd G μ1 H1 S1 → EnvR G μ1 H1 env σ → Rs G μ1 H1 x v → P x S1 → Q v H1) : tAr G E f σ H Q :=
  ⟨μ, S, env, w, er, h.imp (fun x S1 p v H1 μ1 l w1 r => k x S1 v H1 μ1 l w1 (l.envR w er) r p) fun _ _ z => z⟩
theorem tTs_go {f : TsM} {Q : Bool → Hp → Prop} {P : Bool → Sto → Prop} (w : Wd G μ H S) (er : EnvR G μ H env σ) (h : Post (f env S) P (ExP G E μ H))
    (k : ∀ x S1 H1 μ1, Le μ H μ1 H1 → Wd G μ1 H1 S1 → EnvR G μ1 H1 env σ → P x S1 → Q x H1) : tTs G E f σ H Q :=
  ⟨μ, S, env, w, er, h.imp (fun x S1 p H1 μ1 l w1 => k x S1 H1 μ1 l w1 (l.envR w er) p) fun _ _ z => z⟩
theorem post_ex {α : Type} {r : Res α} {P P' : α → Sto → Prop} (l : Le μ H μ1 H1) (h : Post r P (ExP G E μ H)) (k : ∀ a S, P a S → P' a S) : Post r P' (ExP G E μ1 H1) := h.imp k fun _ _ z => z.up l
theorem PE.wk {X : Cx} {e : Expr} {t t' : TE} (h : PE X e t) (k : ∀ σ H Q, t' σ H Q → t σ H Q) : PE X e t' := ⟨fun pins s σ H Q I q => h.run pins s σ H Q I (k σ H Q q)⟩
theorem PT.wk {X : Cx} {e : Expr} {t t' : TT} (h : PT X e t) (k : ∀ σ H Q, t' σ H Q → t σ H Q) : PT X e t' := ⟨fun pins s σ H Q I q => h.run pins s σ H Q I (k σ H Q q)⟩
theorem PW.wk {X : Cx} {e : Expr} {t t' : TT} (h : PW X e t) (k : ∀ σ H Q, t' σ H Q → t σ H Q) : PW X e t' := ⟨fun wh pins s σ H Q I q => h.run wh pins s σ H Q I (k σ H Q q)⟩
theorem PA.wk {X : Cx} {e : List Expr} {t t' : TA} (h : PA X e t) (k : ∀ σ H Q, t' σ H Q → t σ H Q) : PA X e t' := ⟨fun pos pins s σ H Q I q => h.run pos pins s σ H Q I (k σ H Q q)⟩
end

/-! ### what stands behind a value -/
/-- a list, as it stands -/
def lstOf (x : Rv) (S : Sto) : Option (List D) := match x with
  | .new xs => some xs
  | .val (.loc n) => match S[n]? with
    | some (.lst xs) => some xs
    | _ => none
  | _ => none
/-- a list that is read, or a tuple -/
def seqOf (x : Rv) (S : Sto) : Option (List D) := match x with
  | .new xs => some xs
  | .val (.tup xs) => some xs
  | .val (.rol xs) => some xs
  | .val (.loc n) => match S[n]? with
    | some (.lst xs) => some xs
    | _ => none
  | _ => none
section
variable {G : Gm} {E : XK} {μ μ' μ1 : Mp} {H H' H1 H0 : Hp} {S S' : Sto} {env : Env} {σ : L2.St} {x : Rv} {v : V} {xs : List D}
theorem lstOf_ok (w : Wd G μ H S) (r : Rx G H0 μ H x v) (h : lstOf x S = some xs) : ∃ a vs, v = .ref a ∧ H a = some (.lst vs) ∧ Rs G μ H xs vs := by
  unfold lstOf at h
  split at h
  · cases h
    obtain ⟨a, vs, e, ha, _, _, r⟩ := r
    exact ⟨a, vs, e, ha, r⟩
  · rename_i n
    cases r with
    | @loc n a hn =>
      split at h
      · rename_i ys e
        cases h
        obtain ⟨vs, ha, r⟩ := w.obj n a _ hn e
        exact ⟨a, vs, rfl, ha, r⟩
      · cases h
  · cases h
theorem seqOf_ok (w : Wd G μ H S) (r : Rx G H0 μ H x v) (h : seqOf x S = some xs) : ∃ a vs, v = .ref a ∧ (SqL G.K H a vs ∨ SqT G.K H a vs) ∧ Rs G μ H xs vs := by
  unfold seqOf at h
  split at h
  · cases h
    obtain ⟨a, vs, e, ha, _, _, r⟩ := r
    exact ⟨a, vs, e, .inl (.of ha), r⟩
  · cases h
    cases r with
    | tup hs r => exact ⟨_, _, rfl, .inr hs, r⟩
  · cases h
    cases r with
    | rol hs r => exact ⟨_, _, rfl, .inl hs.l, r⟩
  · rename_i n
    cases r with
    | @loc n a hn =>
      split at h
      · rename_i ys e
        cases h
        obtain ⟨vs, ha, r⟩ := w.obj n a _ hn e
        exact ⟨a, vs, rfl, .inl (.of ha), r⟩
      · cases h
  · cases h
end

/-! ### settling: what is kept comes into the store -/
def stl : Rv → Sto → Res D
  | .val d, S => .ok d S
  | .new xs, S => .ok (.loc S.length) (S ++ [.lst xs])
section
variable {G : Gm} {E : XK} {μ0 μ μ' μ1 : Mp} {H0 H H' H1 : Hp} {S S' : Sto} {env : Env} {σ : L2.St} {x : Rv} {v : V} {xs : List D}
theorem stl_ok (l : Le μ0 H0 μ H) (w : Wd G μ H S) (r : Rx G H0 μ H x v) : ∃ d S' μ', stl x S = .ok d S' ∧ Le μ0 H0 μ' H ∧ Wd G μ' H S' ∧ R G μ' H d v ∧ ∀ n a, μ n = some a → μ' n = some a := by
  cases x with
  | val d => exact ⟨d, S, μ, rfl, l, w, r, fun _ _ h => h⟩
  | new xs =>
    obtain ⟨a, vs, e, ha, hn, h0, rs⟩ := r
    subst e
    exact ⟨.loc S.length, S ++ [.lst xs], put μ S.length a, rfl, Le.settle w l h0, w.settle hn (o := .lst xs) ⟨vs, ha, rs⟩, .loc put_self, put_mono w⟩
end

/-! ### names, constants, operators -/
def eNm (i : Nat) : ExM := fun env S => match env[i]? with
  | some (some d) => .ok (.val d) S
  | _ => .bad
def eC (d : D) : ExM := fun _ S => .ok (.val d) S
def eUn (g : Rv → Sto → Res Rv) (fa : ExM) : ExM := fun env S => bnd (fa env S) g
def eBin (g : Rv → Rv → Sto → Res Rv) (fa fb : ExM) : ExM := fun env S => bnd (fa env S) fun x S1 => bnd (fb env S1) fun y S2 => g x y S2
def eChain (g g' : Rv → Rv → Sto → Res Rv) (fa fb fc : ExM) : ExM := fun env S => bnd (fa env S) fun x S1 => bnd (fb env S1) fun y S2 => bnd (g x y S2) fun z S3 => match z with
  | .val (.bl true) => bnd (fc env S3) fun u S4 => g' y u S4
  | .val (.bl false) => .ok (.val (.bl false)) S3
  | _ => .bad
/-- an operation on values keeps what a rule of the layer asks -/
def OkOp (G : Gm) (E : XK) (r : R2) (g : Rv → Rv → Sto → Res Rv) : Prop :=
  ∀ (x y : Rv) (S : Sto) (v u : V) (μ : Mp) (H H0 : Hp) (Q : VK) (QE : Exn → Sto → Prop), Wd G μ H S → Rx G H0 μ H x v → Rx G H0 μ H y u → Post (g x y S) (Gd G μ H Q) QE → r v u H Q
def OkUn (G : Gm) (E : XK) (r : V → Hp → VK → Prop) (g : Rv → Sto → Res Rv) : Prop :=
  ∀ (x : Rv) (S : Sto) (v : V) (μ : Mp) (H H0 : Hp) (Q : VK) (QE : Exn → Sto → Prop), Wd G μ H S → Rx G H0 μ H x v → Post (g x S) (Gd G μ H Q) QE → r v H Q
section
variable {G : Gm} {E : XK} {X : Cx} {a b c : Expr} {pos : Pos} {fa fb fc : ExM}
theorem de_nm {i : Nat} {x : Str} (hN : X.N[i]? = some x) (hv : Vis X.env.scope x) (hd : (x == ("__debug__" : Str)) = false) (hcd : (x == ("__classdict__" : Str)) = false) : PE X (.Name x pos) (tD G E (eNm i)) := by
  refine PE.wk (pe_var hN hv hd hcd) fun σ H Q h => ?_
  obtain ⟨μ, S, env, w, er, h⟩ := h
  unfold eNm at h
  split at h
  · rename_i d e
    obtain ⟨v, e', r⟩ := er.2 i d e
    exact ⟨v, e', h v H μ Le.refl w r⟩
  · exact h.elim
theorem de_c {v : V} {d : D} {e : Expr} (h : PE X e (tC v)) (r : ∀ μ H, R G μ H d v) : PE X e (tD G E (eC d)) :=
  PE.wk h fun σ H Q ⟨μ, S, env, w, er, h⟩ => h v H μ Le.refl w (r μ H)
theorem de_int {i : Int} {j : Nat} : PE X (.Constant (.int i) j pos) (tD G E (eC (.int i))) := de_c pe_int fun _ _ => .int i
theorem de_bl {i : Bool} {j : Nat} : PE X (.Constant (.bool i) j pos) (tD G E (eC (.bl i))) := de_c pe_bl fun _ _ => .bl i
theorem de_str {i : Str} {j : Nat} : PE X (.Constant (.str i) j pos) (tD G E (eC (.str i))) := de_c pe_str fun _ _ => .str i
theorem de_non {j : Nat} : PE X (.Constant .none j pos) (tD G E (eC .non)) := de_c pe_non fun _ _ => .non
theorem tD_un {r : V → Hp → VK → Prop} {g : Rv → Sto → Res Rv} (o : OkUn G E r g) {σ : L2.St} {H : Hp} {Q : VK} (h : tD G E (eUn g fa) σ H Q) : tUn r (tD G E fa) σ H Q := by
  obtain ⟨μ, S, env, w, er, h⟩ := h
  refine tD_go w er (post_bnd.1 h) fun x S1 v H1 μ1 l1 w1 er1 rx h1 => ?_
  exact o x S1 v μ1 H1 H Q _ w1 rx (h1.imp (fun _ _ z => z.up l1) fun _ _ z => z)
theorem tD_bin {r : R2} {g : Rv → Rv → Sto → Res Rv} (o : OkOp G E r g) {σ : L2.St} {H : Hp} {Q : VK} (h : tD G E (eBin g fa fb) σ H Q) : tOp r (tD G E fa) (tD G E fb) σ H Q := by
  obtain ⟨μ, S, env, w, er, h⟩ := h
  refine tD_go w er (post_bnd.1 h) fun x S1 v H1 μ1 l1 w1 er1 rx h1 => ?_
  refine tD_go w1 er1 (post_ex l1 (post_bnd.1 h1) fun _ _ z => z) fun y S2 u H2 μ2 l2 w2 er2 ry h2 => ?_
  exact o x y S2 v u μ2 H2 H Q _ w2 (l2.rx w1 rx) (l1.rx0 ry) (h2.imp (fun _ _ z => z.up (l1.trans l2)) fun _ _ z => z)
theorem de_bin {op : Operator} {r : R2} {g : Rv → Rv → Sto → Res Rv} (ho : OpR X (binaryOp op) r) (o : OkOp G E r g) (ha : PE X a (tD G E fa)) (hb : PE X b (tD G E fb)) : PE X (.BinOp a op b pos) (tD G E (eBin g fa fb)) :=
  PE.wk (pe_op ho ha hb) fun _ _ _ h => tD_bin o h
theorem de_cmp {op : CmpOp} {r : R2} {g : Rv → Rv → Sto → Res Rv} (ho : OpR X (compareOp op) r) (o : OkOp G E r g) (hm : behindInMarks op b = false) (ha : PE X a (tD G E fa)) (hb : PE X b (tD G E fb)) : PE X (.Compare a [op] [b] pos) (tD G E (eBin g fa fb)) :=
  PE.wk (pe_cmpR ho ha hb hm) fun _ _ _ h => tD_bin o h
theorem tD_chain {r r' : R2} {g g' : Rv → Rv → Sto → Res Rv} (o : OkOp G E r g) (o' : OkOp G E r' g') {σ : L2.St} {H : Hp} {Q : VK} (h : tD G E (eChain g g' fa fb fc) σ H Q) : tChain r r' (tD G E fa) (tD G E fb) (tD G E fc) σ H Q := by
  obtain ⟨μ, S, env, w, er, h⟩ := h
  refine tD_go w er (post_bnd.1 h) fun x S1 v H1 μ1 l1 w1 er1 rx h1 => ?_
  refine tD_go w1 er1 (post_ex l1 (post_bnd.1 h1) fun _ _ z => z) fun y S2 u H2 μ2 l2 w2 er2 ry h2 => ?_
  refine o x y S2 v u μ2 H2 H _ _ w2 (l2.rx w1 rx) (l1.rx0 ry) ((post_bnd.1 h2).imp (fun z S3 h3 z' H3 μ3 l3 w3 rz => ?_) fun _ _ z => z)
  have l := (l1.trans l2).trans l3
  match z, rz, h3 with
  | .val (.bl true), rz, h3 =>
    cases rz
    refine ⟨true, rfl, iteT ?_⟩
    refine tD_go w3 (l3.envR w2 er2) (post_ex l (post_bnd.1 h3) fun _ _ z => z) fun t S4 t' H4 μ4 l4 w4 er4 rt h4 => ?_
    exact o' y t S4 u t' μ4 H4 H Q _ w4 ((l3.trans l4).rx w2 (l1.rx0 ry)) (l.rx0 rt) (h4.imp (fun _ _ z => z.up (l.trans l4)) fun _ _ z => z)
  | .val (.bl false), rz, h3 =>
    cases rz
    exact ⟨false, rfl, iteF (h3 _ H3 μ3 l w3 (.bl false))⟩
theorem de_chain {op op' : CmpOp} {r r' : R2} {g g' : Rv → Rv → Sto → Res Rv} (ho : OpR X (compareOp op) r) (ho' : OpR X (compareOp op') r') (o : OkOp G E r g) (o' : OkOp G E r' g') (hm : lastMarks [op, op'] [b, c] = false)
    (ha : PE X a (tD G E fa)) (hb : PE X b (tD G E fb)) (hc : PE X c (tD G E fc)) : PE X (.Compare a [op, op'] [b, c] pos) (tD G E (eChain g g' fa fb fc)) :=
  PE.wk (pe_chain ho ho' ha hb hc hm) fun _ _ _ h => tD_chain o o' h

/-! ### tests -/
/-- a value that is a truth -/
def asB (f : ExM) : TsM := fun env S => bnd (f env S) fun x S1 => match x with
  | .val (.bl b) => .ok b S1
  | _ => .bad
theorem tTest_of {f : ExM} {t : TE} (k : ∀ σ H Q, tD G E f σ H Q → t σ H Q) {σ : L2.St} {H : Hp} {Q : Bool → Hp → Prop} (h : tTs G E (asB f) σ H Q) : tTest t σ H Q := by
  obtain ⟨μ, S, env, w, er, h⟩ := h
  refine k σ H _ ?_
  refine tD_go w er (post_bnd.1 h) fun x S1 v H1 μ1 l1 w1 er1 rx h1 => ?_
  match x, rx, h1 with
  | .val (.bl b), rx, h1 =>
    cases rx
    exact ⟨b, rfl, h1 H1 μ1 l1 w1⟩
theorem dt_cmp {op : CmpOp} {r : R2} {g : Rv → Rv → Sto → Res Rv} (ho : OpR X (compareOp op) r) (o : OkOp G E r g) (hm : behindInMarks op b = false) (ha : PE X a (tD G E fa)) (hb : PE X b (tD G E fb)) : PT X (.Compare a [op] [b] pos) (tTs G E (asB (eBin g fa fb))) :=
  PT.wk (pt_cmpR ho ha hb hm) fun _ _ _ h => tTest_of (fun _ _ _ q => tD_bin o q) h
theorem dt_chain {op op' : CmpOp} {r r' : R2} {g g' : Rv → Rv → Sto → Res Rv} (ho : OpR X (compareOp op) r) (ho' : OpR X (compareOp op') r') (o : OkOp G E r g) (o' : OkOp G E r' g') (hm : lastMarks [op, op'] [b, c] = false)
    (ha : PE X a (tD G E fa)) (hb : PE X b (tD G E fb)) (hc : PE X c (tD G E fc)) : PT X (.Compare a [op, op'] [b, c] pos) (tTs G E (asB (eChain g g' fa fb fc))) :=
  PT.wk (pt_chain ho ho' ha hb hc hm) fun _ _ _ h => tTest_of (fun _ _ _ q => tD_chain o o' q) h
/-- truth of a value -/
def truOf (x : Rv) (S : Sto) : Option Bool := match x with
  | .val .non => some false
  | .val (.bl b) => some b
  | .val (.int i) => some (i != 0)
  | .val (.str y) => if y.length ≤ big then some ((y.length : Int) != 0) else none
  | x => (seqOf x S).map fun xs => !xs.isEmpty
theorem isEmpty_rs {μ : Mp} {H : Hp} {ds : List D} {vs : List V} (r : Rs G μ H ds vs) : (!ds.isEmpty) = !vs.isEmpty := by cases r <;> rfl
theorem truOf_ok {μ : Mp} {H H0 : Hp} {S : Sto} {x : Rv} {v : V} {k : Bool} (w : Wd G μ H S) (r : Rx G H0 μ H x v) (h : truOf x S = some k) : TruV G.K v H k := by
  unfold truOf at h
  split at h
  · cases h; cases r; exact rfl
  · cases h; cases r; exact rfl
  · cases h; cases r; exact rfl
  · split at h
    · rename_i hz
      cases h; cases r; exact ⟨big_le hz, rfl⟩
    · cases h
  · cases q : seqOf x S with
    | none => rw [q] at h; cases h
    | some xs =>
      rw [q] at h
      have h : some (!xs.isEmpty) = some k := h
      cases h
      obtain ⟨a, vs, rfl, hs, rs⟩ := seqOf_ok w r q
      rcases hs with hs | hs
      · exact .inl ⟨vs, hs, isEmpty_rs rs⟩
      · exact .inr (.inl ⟨vs, hs, isEmpty_rs rs⟩)
def tru (f : ExM) : TsM := fun env S => bnd (f env S) fun x S1 => match truOf x S1 with
  | some b => .ok b S1
  | none => .bad
def tTru (K : PySem.W.Frag) (t : TE) : TT := fun σ H Q => t σ H fun x H1 => ∃ k, TruV K x H1 k ∧ Q k H1
theorem pt_truV {e : Expr} {t : TE} (h : PE X e t) (he : ∀ whole, isTrue e X.env whole = (do let v ← whole; standAt e.pos; holding [v] (truthy v))) : PT X e (tTru X.K t) := by
  refine ⟨fun pins s σ H Q I hw => ?_⟩
  refine isTrue_plain (thn (h.run pins s σ H _ I hw) fun v s1 ⟨x, H1, I1, r1, q1⟩ => ?_) (he _)
  obtain ⟨d, k, q⟩ := q1
  exact tru_ok pins s1 σ H1 x v Q I1 r1 ⟨d, k, q⟩
theorem dt_tru {e : Expr} (hK : X.K = G.K) (he : ∀ whole, isTrue e X.env whole = (do let v ← whole; standAt e.pos; holding [v] (truthy v))) (ha : PE X e (tD G E fa)) : PT X e (tTs G E (tru fa)) := by
  refine PT.wk (pt_truV ha he) fun σ H Q h => ?_
  obtain ⟨μ, S, env, w, er, h⟩ := h
  refine tD_go w er (post_bnd.1 h) fun x S1 v H1 μ1 l1 w1 er1 rx h1 => ?_
  split at h1
  · rename_i b e
    exact ⟨b, by rw [hK]; exact truOf_ok w1 rx e, h1 H1 μ1 l1 w1⟩
  · exact h1.elim
/-- and, or, not -/
def tsAnd (f g : TsM) : TsM := fun env S => bnd (f env S) fun b S1 => if b = true then g env S1 else .ok false S1
def tsOr (f g : TsM) : TsM := fun env S => bnd (f env S) fun b S1 => if b = true then .ok true S1 else g env S1
def tsNot (f : TsM) : TsM := fun env S => bnd (f env S) fun b S1 => .ok (!b) S1
variable {ta tb : TsM} {rest : List Expr}
theorem dw_and1 (h : PT X a (tTs G E ta)) : PW X (.BoolOp .And [a] pos) (tTs G E ta) := pw_and1 h
theorem dw_or1 (h : PT X a (tTs G E ta)) : PW X (.BoolOp .Or [a] pos) (tTs G E ta) := pw_or1 h
theorem dw_and (ha : PT X a (tTs G E ta)) (hb : PW X (.BoolOp .And (b :: rest) pos) (tTs G E tb)) : PW X (.BoolOp .And (a :: b :: rest) pos) (tTs G E (tsAnd ta tb)) :=
  PW.wk (pw_and ha hb) fun σ H Q ⟨μ, S, env, w, er, h⟩ => tTs_go w er (post_bnd.1 h) fun k S1 H1 μ1 l1 w1 er1 h1 => by
    cases k with
    | true => exact iteT ⟨μ1, S1, env, w1, er1, post_ex l1 h1 fun _ _ z => z.up l1⟩
    | false => exact iteF (h1 H1 μ1 l1 w1)
theorem dw_or (ha : PT X a (tTs G E ta)) (hb : PW X (.BoolOp .Or (b :: rest) pos) (tTs G E tb)) : PW X (.BoolOp .Or (a :: b :: rest) pos) (tTs G E (tsOr ta tb)) :=
  PW.wk (pw_or ha hb) fun σ H Q ⟨μ, S, env, w, er, h⟩ => tTs_go w er (post_bnd.1 h) fun k S1 H1 μ1 l1 w1 er1 h1 => by
    cases k with
    | true => exact iteT (h1 H1 μ1 l1 w1)
    | false => exact iteF ⟨μ1, S1, env, w1, er1, post_ex l1 h1 fun _ _ z => z.up l1⟩
theorem dt_not (ha : PT X a (tTs G E ta)) : PT X (.UnaryOp .Not a pos) (tTs G E (tsNot ta)) :=
  PT.wk (pt_not ha) fun σ H Q ⟨μ, S, env, w, er, h⟩ => tTs_go w er (post_bnd.1 h) fun k S1 H1 μ1 l1 w1 er1 h1 => h1 H1 μ1 l1 w1
/-- .. as values -/
def eAnd (fa fb : ExM) : ExM := fun env S => bnd (fa env S) fun x S1 => match truOf x S1 with
  | some true => fb env S1
  | some false => .ok x S1
  | none => .bad
def eOr (fa fb : ExM) : ExM := fun env S => bnd (fa env S) fun x S1 => match truOf x S1 with
  | some true => .ok x S1
  | some false => fb env S1
  | none => .bad
def eNot (fa : ExM) : ExM := fun env S => bnd (fa env S) fun x S1 => match truOf x S1 with
  | some k => .ok (.val (.bl (!k))) S1
  | none => .bad
theorem de_and (hK : X.K = G.K) (ha : PE X a (tD G E fa)) (hb : PE X (.BoolOp .And (b :: rest) pos) (tD G E fb)) : PE X (.BoolOp .And (a :: b :: rest) pos) (tD G E (eAnd fa fb)) :=
  PE.wk (pe_andT ha hb) fun σ H Q ⟨μ, S, env, w, er, h⟩ => tD_go w er (post_bnd.1 h) fun x S1 v H1 μ1 l1 w1 er1 rx h1 => by
    split at h1
    · rename_i e
      exact ⟨true, by rw [hK]; exact truOf_ok w1 rx e, iteT ⟨μ1, S1, env, w1, er1, post_ex l1 h1 fun _ _ z => z.up l1⟩⟩
    · rename_i e
      exact ⟨false, by rw [hK]; exact truOf_ok w1 rx e, iteF (h1 v H1 μ1 l1 w1 rx)⟩
    · exact h1.elim
theorem de_or (hK : X.K = G.K) (ha : PE X a (tD G E fa)) (hb : PE X (.BoolOp .Or (b :: rest) pos) (tD G E fb)) : PE X (.BoolOp .Or (a :: b :: rest) pos) (tD G E (eOr fa fb)) :=
  PE.wk (pe_orT ha hb) fun σ H Q ⟨μ, S, env, w, er, h⟩ => tD_go w er (post_bnd.1 h) fun x S1 v H1 μ1 l1 w1 er1 rx h1 => by
    split at h1
    · rename_i e
      exact ⟨true, by rw [hK]; exact truOf_ok w1 rx e, iteT (h1 v H1 μ1 l1 w1 rx)⟩
    · rename_i e
      exact ⟨false, by rw [hK]; exact truOf_ok w1 rx e, iteF ⟨μ1, S1, env, w1, er1, post_ex l1 h1 fun _ _ z => z.up l1⟩⟩
    · exact h1.elim
theorem de_one {op : BoolOp} (ha : PE X a (tD G E fa)) : PE X (.BoolOp op [a] pos) (tD G E fa) := pe_one ha
theorem de_not (hK : X.K = G.K) (ha : PE X a (tD G E fa)) : PE X (.UnaryOp .Not a pos) (tD G E (eNot fa)) :=
  PE.wk (pe_notT ha) fun σ H Q ⟨μ, S, env, w, er, h⟩ => tD_go w er (post_bnd.1 h) fun x S1 v H1 μ1 l1 w1 er1 rx h1 => by
    split at h1
    · rename_i k e
      exact ⟨k, by rw [hK]; exact truOf_ok w1 rx e, h1 _ H1 μ1 l1 w1 (.bl _)⟩
    · exact h1.elim
def eIf (t : TsM) (fa fb : ExM) : ExM := fun env S => bnd (t env S) fun k S1 => if k = true then fa env S1 else fb env S1
theorem de_if (hc : PT X c (tTs G E ta)) (ha : PE X a (tD G E fa)) (hb : PE X b (tD G E fb)) : PE X (.IfExp c a b pos) (tD G E (eIf ta fa fb)) :=
  PE.wk (pe_ifExp hc ha hb) fun σ H Q ⟨μ, S, env, w, er, h⟩ => tTs_go w er (post_bnd.1 h) fun k S1 H1 μ1 l1 w1 er1 h1 => by
    cases k with
    | true => exact iteT ⟨μ1, S1, env, w1, er1, post_ex l1 h1 fun _ _ z => z.up l1⟩
    | false => exact iteF ⟨μ1, S1, env, w1, er1, post_ex l1 h1 fun _ _ z => z.up l1⟩
theorem de_neg (ha : PE X a (tD G E fa)) : PE X (.UnaryOp .USub a pos) (tD G E (eUn (fun x S => match x with
  | .val (.int i) => .ok (.val (.int (-i))) S
  | _ => .bad) fa)) := PE.wk (pe_un un_neg ha) fun σ H Q h => tD_un (fun x S v μ H H0 Q QE w r q => by
    split at q
    · cases r
      exact ⟨_, rfl, q _ H μ Le.refl w (.int _)⟩
    · exact q.elim) h

/-! ### argument lists, displays -/
def aNil : ArM := fun _ S => .ok [] S
def aCons (f : ExM) (g : ArM) : ArM := fun env S => bnd (f env S) fun x S1 => bnd (stl x S1) fun d S2 => bnd (g env S2) fun ds S3 => .ok (d :: ds) S3
variable {e : Expr} {es : List Expr} {ga : ArM}
theorem da_nil : PA X [] (tAr G E aNil) := PA.wk pa_nil fun σ H Q ⟨μ, S, env, w, er, h⟩ => h [] H μ Le.refl w .nil
theorem da_cons (hs : starEach (e :: es) X.env = (false, eval e X.env) :: starEach es X.env) (ha : PE X e (tD G E fa)) (hr : PA X es (tAr G E ga)) : PA X (e :: es) (tAr G E (aCons fa ga)) :=
  PA.wk (pa_cons ha hr hs) fun σ H Q ⟨μ, S, env, w, er, h⟩ => tD_go w er (post_bnd.1 h) fun x S1 v H1 μ1 l1 w1 er1 rx h1 => by
    obtain ⟨d, S2, μ2, e2, l2, w2, r2, m2⟩ := stl_ok l1 w1 rx
    rw [e2] at h1
    have er2 : EnvR G μ2 H1 env σ := l2.envR w er
    refine tAr_go w2 er2 (post_ex l2 (post_bnd.1 (show Post (bnd (ga env S2) _) _ _ from h1)) fun _ _ z => z) fun ds S3 vs H3 μ3 l3 w3 er3 rs h3 => ?_
    exact h3 (v :: vs) H3 μ3 (l2.trans l3) w3 (.cons (l3.r w2 r2) rs)
def eTup (f : ArM) : ExM := fun env S => bnd (f env S) fun ds S1 => if ds.length ≤ big then .ok (.val (.tup ds)) S1 else .bad
def eLst (f : ArM) : ExM := fun env S => bnd (f env S) fun ds S1 => if ds.length ≤ big then .ok (.new ds) S1 else .bad
theorem Rx.fresh {μ : Mp} {H H0 : Hp} {S : Sto} {p : Addr} {ds : List D} {vs : List V} (w : Wd G μ H S) (hp : H p = none) (h0 : H0 p = none) (r : Rs G μ H ds vs) : Rx G H0 μ (upd H p (.lst vs)) (.new ds) (.ref p) :=
  ⟨p, vs, rfl, upd_same, w.free hp, h0, (Le.laid hp).rs w r⟩
theorem R.fresh {μ : Mp} {H : Hp} {S : Sto} {p : Addr} {ds : List D} {vs : List V} (w : Wd G μ H S) (hp : H p = none) (r : Rs G μ H ds vs) : R G μ (upd H p (.tup vs)) (.tup ds) (.ref p) :=
  .tup (.of upd_same) ((Le.laid hp).rs w r)
theorem de_tup {k : Nat} (ha : PA X es (tAr G E ga)) : PE X (.Tuple es k pos) (tD G E (eTup ga)) :=
  PE.wk (pe_tup ha) fun σ H Q ⟨μ, S, env, w, er, h⟩ => tAr_go w er (post_bnd.1 h) fun ds S1 vs H1 μ1 l1 w1 er1 rs h1 => by
    split at h1
    · rename_i hz
      refine ⟨big_le (by rw [← rs.length]; exact hz), fun p hp => h1 _ _ μ1 (l1.trans (Le.laid hp)) (w1.laid hp) (R.fresh w1 hp rs)⟩
    · exact h1.elim
theorem de_lst (ha : PA X es (tAr G E ga)) : PE X (.List es pos) (tD G E (eLst ga)) :=
  PE.wk (pe_lst ha) fun σ H Q ⟨μ, S, env, w, er, h⟩ => tAr_go w er (post_bnd.1 h) fun ds S1 vs H1 μ1 l1 w1 er1 rs h1 => by
    split at h1
    · rename_i hz
      refine ⟨big_le (by rw [← rs.length]; exact hz), fun p hp => h1 _ _ μ1 (l1.trans (Le.laid hp)) (w1.laid hp) (Rx.fresh w1 hp (l1.free hp) rs)⟩
    · exact h1.elim
end
end Bz

set_option Elab.async false
set_option linter.all false
set_option maxRecDepth 100000
set_option maxHeartbeats 2000000
/-! Bz, third part: operations on values. -/
namespace Bz
open PySem PySem.Spec PyProof.Rows L2

theorem OpR.or {X : Cx} {f : Value → Value → Sem Value} {r r' : R2} (h : OpR X f r) (h' : OpR X f r') : OpR X f (fun x y H Q => r x y H Q ∨ r' x y H Q) := by
  intro pins s σ H x y v u Q I rx ry q
  rcases q with q | q
  · exact h pins s σ H x y v u Q I rx ry q
  · exact h' pins s σ H x y v u Q I rx ry q
/-- two ints -/
def intI (C : Int → Int → Bool) (h : Int → Int → Int) : Rv → Rv → Sto → Res Rv := fun x y S => match x, y with
  | .val (.int i), .val (.int j) => if C i j = true then .ok (.val (.int (h i j))) S else .bad
  | _, _ => .bad
def cMul (i j : Int) : Bool := (decide (-(2 ^ 64) < i) && decide (i < 2 ^ 64)) || (decide (-(2 ^ 64) < j) && decide (j < 2 ^ 64))
def cDiv (_ j : Int) : Bool := decide (0 < j) && decide (j < 2 ^ 200)
def cMod (_ j : Int) : Bool := decide (0 < j)
def cPow (i j : Int) : Bool := decide (0 ≤ j) && decide (j ≤ 1000) && decide (i.natAbs < 2 ^ 64)
section
variable {G : Gm} {E : XK}
theorem ok_intI {C : Int → Int → Bool} {C' : Int → Int → Prop} {h : Int → Int → Int} (hc : ∀ i j, C i j = true → C' i j) : OkOp G E (rI C' fun i j => .int (h i j)) (intI C h) := by
  intro x y S v u μ H H0 Q QE w rx ry q
  unfold intI at q
  split at q
  · split at q
    · rename_i c
      cases rx; cases ry
      exact ⟨_, _, rfl, rfl, hc _ _ c, q _ H μ Le.refl w (.int _)⟩
    · exact q.elim
  · exact q.elim
theorem cMul_ok (i j : Int) (h : cMul i j = true) : CMul i j := by
  unfold cMul at h
  simp only [Bool.or_eq_true, Bool.and_eq_true, decide_eq_true_eq] at h
  exact h
theorem cDiv_ok (i j : Int) (h : cDiv i j = true) : CDivW i j := by
  unfold cDiv at h
  simp only [Bool.and_eq_true, decide_eq_true_eq] at h
  exact wide_div (b := 200) h.1 (by omega) (by decide) (by decide)
theorem cMod_ok (i j : Int) (h : cMod i j = true) : (0 : Int) < j := of_decide_eq_true h
theorem cPow_ok (i j : Int) (h : cPow i j = true) : CPow i j := by
  unfold cPow at h
  simp only [Bool.and_eq_true, decide_eq_true_eq] at h
  exact ⟨h.1.1, by omega, h.2⟩
def subV : Rv → Rv → Sto → Res Rv := intI (fun _ _ => true) fun i j => i - j
def mulV : Rv → Rv → Sto → Res Rv := intI cMul fun i j => i * j
def divV : Rv → Rv → Sto → Res Rv := intI cDiv fun i j => i / j
def modV : Rv → Rv → Sto → Res Rv := intI cMod fun i j => i % j
def powV : Rv → Rv → Sto → Res Rv := intI cPow fun i j => i ^ j.toNat
theorem ok_sub {X : Cx} : ∃ r, OpR X (binaryOp .Sub) r ∧ OkOp G E r subV := by
  refine ⟨rI (fun _ _ => True) fun i j => .int (i - j), ?_, ok_intI fun _ _ _ => trivial⟩
  intro pins s σ H x y v u Q I rx ry ⟨i, j, e1, e2, _, q⟩
  exact op_sub pins s σ H x y v u Q I rx ry ⟨i, j, e1, e2, q⟩
theorem ok_mul {X : Cx} : ∃ r, OpR X (binaryOp .Mult) r ∧ OkOp G E r mulV := ⟨_, op_mul, ok_intI cMul_ok⟩
theorem ok_div {X : Cx} : ∃ r, OpR X (binaryOp .FloorDiv) r ∧ OkOp G E r divV := ⟨_, op_fdivW, ok_intI cDiv_ok⟩
theorem ok_mod {X : Cx} : ∃ r, OpR X (binaryOp .Mod) r ∧ OkOp G E r modV := ⟨_, op_mod, ok_intI cMod_ok⟩
theorem ok_pow {X : Cx} : ∃ r, OpR X (binaryOp .Pow) r ∧ OkOp G E r powV := ⟨_, op_pow, ok_intI cPow_ok⟩

/-! ### + -/
def addV : Rv → Rv → Sto → Res Rv := fun x y S => match x, y with
  | .val (.int i), .val (.int j) => .ok (.val (.int (i + j))) S
  | .val (.bl b), .val (.int j) => .ok (.val (.int (b2i b + j))) S
  | .val (.str i), .val (.str j) => if i.length + j.length ≤ big then .ok (.val (.str (i ++ j))) S else .bad
  | .val (.tup xs), .val (.tup ys) => if xs.length + ys.length ≤ big then .ok (.val (.tup (xs ++ ys))) S else .bad
  | x, y => match lstOf x S, lstOf y S with
    | some xs, some ys => if xs.length + ys.length ≤ big then .ok (.new (xs ++ ys)) S else .bad
    | _, _ => .bad
theorem op_add_bi {X : Cx} : OpR X (binaryOp .Add) (fun x y H Q => ∃ k i, x = .bl k ∧ y = .int i ∧ Q (.int (b2i k + i)) H) := fun pins s σ H x y v u Q I rx ry h => by
  obtain ⟨k, i, rfl, rfl, q⟩ := h
  obtain ⟨t, rfl⟩ := ry
  cases rx
  refine IntBool.add_bool_int ⟨.int (b2i k + i), H, I.tok _, ⟨_, rfl⟩, q⟩
theorem ok_add {X : Cx} (hK : X.K = G.K) : ∃ r, OpR X (binaryOp .Add) r ∧ OkOp G E r addV := by
  refine ⟨_, OpR.or op_add (OpR.or op_add_bi (OpR.or op_add_str (OpR.or op_catA op_cat))), ?_⟩
  intro x y S v u μ H H0 Q QE w rx ry q
  unfold addV at q
  split at q
  · cases rx; cases ry
    exact .inl ⟨_, _, rfl, rfl, q _ H μ Le.refl w (.int _)⟩
  · cases rx; cases ry
    exact .inr (.inl ⟨_, _, rfl, rfl, q _ H μ Le.refl w (.int _)⟩)
  · split at q
    · rename_i hz
      cases rx; cases ry
      exact .inr (.inr (.inl ⟨_, _, rfl, rfl, big_le hz, q _ H μ Le.refl w (.str _)⟩))
    · exact q.elim
  · split at q
    · rename_i xs ys hz
      cases rx with
      | @tup _ a vs hx r1 =>
      cases ry with
      | @tup _ b ws hy r2 =>
      have e1 := r1.length
      have e2 := r2.length
      refine .inr (.inr (.inr (.inl ⟨a, b, vs, ws, rfl, rfl, by rw [hK]; exact hx, by rw [hK]; exact hy, big_le (by rw [← e1, ← e2]; exact hz), fun e => ?_, fun _ e => ?_, fun _ _ p hp => ?_⟩)))
      · subst e
        have : xs = [] := List.eq_nil_of_length_eq_zero e1
        subst this
        exact q _ H μ Le.refl w (.tup hy r2)
      · subst e
        have : ys = [] := List.eq_nil_of_length_eq_zero e2
        subst this
        rw [List.append_nil] at q
        exact q _ H μ Le.refl w (.tup hx r1)
      · exact q _ _ μ (Le.laid hp) (w.laid hp) (R.fresh w hp (r1.append r2))
    · exact q.elim
  · split at q
    · rename_i xs ys e1 e2
      split at q
      · rename_i hz
        obtain ⟨a, vs, rfl, ha, r1⟩ := lstOf_ok w rx e1
        obtain ⟨b, ws, rfl, hb, r2⟩ := lstOf_ok w ry e2
        refine .inr (.inr (.inr (.inr ⟨a, b, vs, ws, rfl, rfl, ha, hb, big_le (by rw [← r1.length, ← r2.length]; exact hz), fun p hp => ?_⟩)))
        exact q _ _ μ (Le.laid hp) (w.laid hp) (Rx.fresh w hp hp (r1.append r2))
      · exact q.elim
    · exact q.elim

/-! ### equality -/
mutual
/-- the data that stands under a value; lk: what stands under a place of the store -/
def rfd (lk : Nat → Option PyData) : D → Option PyData
  | .non => some .none
  | .bl b => some (.bool b)
  | .int i => some (.int i)
  | .str x => some (.str x)
  | .tup xs => (rfds lk xs).map .tuple
  | .rol xs => (rfds lk xs).map .list
  | .loc m => lk m
  | .fn _ => none
def rfds (lk : Nat → Option PyData) : List D → Option (List PyData)
  | [] => some []
  | x :: xs => match rfd lk x, rfds lk xs with
    | some d, some ds => some (d :: ds)
    | _, _ => none
end
def lkS (S : Sto) : Nat → Nat → Option PyData
  | 0, _ => none
  | n + 1, m => match S[m]? with
    | some (.lst xs) => (rfds (lkS S n) xs).map .list
    | _ => none
def rfx (x : Rv) (S : Sto) : Option PyData := match x with
  | .val d => rfd (lkS S 12) d
  | .new xs => (rfds (lkS S 12) xs).map .list
section
variable {μ : Mp} {H : Hp} {S : Sto} {lk : Nat → Option PyData}
mutual
theorem rfd_ok (hl : ∀ m a p, μ m = some a → lk m = some p → Dp G.K H (.ref a) p) : ∀ (d : D) (v : V) (p : PyData), R G μ H d v → rfd lk d = some p → Dp G.K H v p
  | .non, _, _, r, e => by cases r; cases e; exact .non
  | .bl b, _, _, r, e => by cases r; cases e; exact .bl b
  | .int b, _, _, r, e => by cases r; cases e; exact .int b
  | .str b, _, _, r, e => by cases r; cases e; exact .str b
  | .loc m, _, _, r, e => by
    cases r with
    | loc h => exact hl _ _ _ h e
  | .fn _, _, _, r, e => by cases e
  | .tup ds, _, _, r, e => by
    cases r with
    | tup h r =>
      obtain ⟨ps, e1, e2⟩ := Option.map_eq_some_iff.mp (show (rfds lk ds).map PyData.tuple = some _ from e)
      subst e2
      exact .tup h (rfds_ok hl ds _ ps r e1)
  | .rol ds, _, _, r, e => by
    cases r with
    | rol h r =>
      obtain ⟨ps, e1, e2⟩ := Option.map_eq_some_iff.mp (show (rfds lk ds).map PyData.list = some _ from e)
      subst e2
      exact .lst h.l (rfds_ok hl ds _ ps r e1)
theorem rfds_ok (hl : ∀ m a p, μ m = some a → lk m = some p → Dp G.K H (.ref a) p) : ∀ (ds : List D) (vs : List V) (ps : List PyData), Rs G μ H ds vs → rfds lk ds = some ps → DpAll G.K H vs ps
  | [], _, _, r, e => by cases r; cases e; exact .nil
  | d :: ds, _, _, r, e => by
    cases r with
    | cons h t =>
      have e : (match rfd lk d, rfds lk ds with
        | some d, some ds => some (d :: ds)
        | _, _ => none) = some _ := e
      split at e
      · rename_i p ps e1 e2
        cases e
        exact .cons (rfd_ok hl d _ p h e1) (rfds_ok hl ds _ ps t e2)
      · cases e
end
theorem lkS_ok (w : Wd G μ H S) : ∀ (n m : Nat) (a : Addr) (p : PyData), μ m = some a → lkS S n m = some p → Dp G.K H (.ref a) p
  | 0, _, _, _, _, e => by cases e
  | n + 1, m, a, p, h, e => by
    unfold lkS at e
    split at e
    · rename_i ys es
      obtain ⟨ps, e1, e2⟩ := Option.map_eq_some_iff.mp e
      subst e2
      obtain ⟨vs, ha, rs⟩ := w.obj m a _ h es
      exact .lst (.of ha) (rfds_ok (lkS_ok w n) _ _ _ rs e1)
    · cases e
end
theorem rfx_ok {μ : Mp} {H H0 : Hp} {S : Sto} {x : Rv} {v : V} {p : PyData} (w : Wd G μ H S) (r : Rx G H0 μ H x v) (e : rfx x S = some p) : Dp G.K H v p := by
  cases x with
  | val d => exact rfd_ok (lkS_ok w 12) d v p r e
  | new xs =>
    obtain ⟨a, vs, e1, ha, _, _, rs⟩ := r
    subst e1
    obtain ⟨ps, e1, e2⟩ := Option.map_eq_some_iff.mp (show (rfds (lkS S 12) xs).map PyData.list = some p from e)
    subst e2
    exact .lst (.of ha) (rfds_ok (lkS_ok w 12) _ _ _ rs e1)
/-- == -/
def eqOf (x y : Rv) (S : Sto) : Option Bool := match x, y with
  | .val (.str i), .val (.str j) => some (i == j)
  | .val (.int i), .val (.int j) => some (i == j)
  | x, y => match rfx x S, rfx y S with
    | some p, some q => if SeqAt.shaped p && SeqAt.shaped q then some (PyData.eqv p q) else none
    | _, _ => none
def eqV' : Rv → Rv → Sto → Res Rv := fun x y S => match eqOf x y S with
  | some b => .ok (.val (.bl b)) S
  | none => .bad
def neV' : Rv → Rv → Sto → Res Rv := fun x y S => match eqOf x y S with
  | some b => .ok (.val (.bl (!b))) S
  | none => .bad
theorem eqOf_ok {μ : Mp} {H H0 : Hp} {S : Sto} {x y : Rv} {v u : V} {b : Bool} (w : Wd G μ H S) (rx : Rx G H0 μ H x v) (ry : Rx G H0 μ H y u) (h : eqOf x y S = some b) :
    (scal v u = true ∧ decide (v = u) = b) ∨ ∃ p q, Dp G.K H v p ∧ Dp G.K H u q ∧ SeqAt.shaped p = true ∧ SeqAt.shaped q = true ∧ PyData.eqv p q = b := by
  unfold eqOf at h
  split at h
  · cases h; cases rx; cases ry
    exact .inl ⟨rfl, dec_str⟩
  · cases h; cases rx; cases ry
    exact .inl ⟨rfl, dec_int⟩
  · split at h
    · rename_i p q e1 e2
      split at h
      · rename_i c
        cases h
        rw [Bool.and_eq_true] at c
        exact .inr ⟨p, q, rfx_ok w rx e1, rfx_ok w ry e2, c.1, c.2, rfl⟩
      · cases h
    · cases h
theorem ok_eq {X : Cx} (hK : X.K = G.K) (hu : X.A.units + 64 < cLine) : ∃ r, OpR X (compareOp .Eq) r ∧ OkOp G E r eqV' := by
  refine ⟨_, OpR.or op_eq (op_eqD hu), ?_⟩
  intro x y S v u μ H H0 Q QE w rx ry q
  unfold eqV' at q
  split at q
  · rename_i b e
    have q := q _ H μ Le.refl w (.bl b)
    rcases eqOf_ok w rx ry e with ⟨h1, h2⟩ | ⟨p, p', h1, h2, h3, h4, h5⟩
    · exact .inl ⟨h1, by rw [h2]; exact q⟩
    · exact .inr ⟨p, p', by rw [hK]; exact h1, by rw [hK]; exact h2, h3, h4, by rw [h5]; exact q⟩
  · exact q.elim
theorem ok_ne {X : Cx} (hK : X.K = G.K) (hu : X.A.units + 64 < cLine) : ∃ r, OpR X (compareOp .NotEq) r ∧ OkOp G E r neV' := by
  refine ⟨_, OpR.or op_ne (op_neD hu), ?_⟩
  intro x y S v u μ H H0 Q QE w rx ry q
  unfold neV' at q
  split at q
  · rename_i b e
    have q := q _ H μ Le.refl w (.bl _)
    rcases eqOf_ok w rx ry e with ⟨h1, h2⟩ | ⟨p, p', h1, h2, h3, h4, h5⟩
    · exact .inl ⟨h1, by rw [h2]; exact q⟩
    · exact .inr ⟨p, p', by rw [hK]; exact h1, by rw [hK]; exact h2, h3, h4, by rw [h5]; exact q⟩
  · exact q.elim

/-! ### is, in -/
def isNonX : Rv → Bool
  | .val .non => true
  | _ => false
def isOf (x y : Rv) : Option Bool := match x, y with
  | x, .val .non => some (isNonX x)
  | .val (.bl a), .val (.bl b) => some (decide (a = b))
  | _, _ => none
def isV' : Rv → Rv → Sto → Res Rv := fun x y S => match isOf x y with
  | some b => .ok (.val (.bl b)) S
  | none => .bad
def isNotV' : Rv → Rv → Sto → Res Rv := fun x y S => match isOf x y with
  | some b => .ok (.val (.bl (!b))) S
  | none => .bad
theorem isNonX_ok {μ : Mp} {H H0 : Hp} {x : Rv} {v : V} (r : Rx G H0 μ H x v) : decide (v = .non) = isNonX x := by
  cases x with
  | val d => cases r <;> rfl
  | new xs => obtain ⟨a, vs, e, _⟩ := r; subst e; rfl
theorem ok_is {X : Cx} : ∃ r, OpR X (compareOp .Is) r ∧ OkOp G E r isV' := by
  refine ⟨_, OpR.or op_isN op_isBl, ?_⟩
  intro x y S v u μ H H0 Q QE w rx ry q
  unfold isV' at q
  split at q
  · rename_i b e
    have q := q _ H μ Le.refl w (.bl b)
    unfold isOf at e
    split at e
    · cases e; cases ry
      exact .inl ⟨rfl, by rw [isNonX_ok rx]; exact q⟩
    · cases e; cases rx; cases ry
      exact .inr ⟨_, _, rfl, rfl, q⟩
    · cases e
  · exact q.elim
theorem ok_isnot {X : Cx} : ∃ r, OpR X (compareOp .IsNot) r ∧ OkOp G E r isNotV' := by
  refine ⟨_, OpR.or op_notN op_notBl, ?_⟩
  intro x y S v u μ H H0 Q QE w rx ry q
  unfold isNotV' at q
  split at q
  · rename_i b e
    have q := q _ H μ Le.refl w (.bl _)
    unfold isOf at e
    split at e
    · cases e; cases ry
      exact .inl ⟨rfl, by rw [isNonX_ok rx]; exact q⟩
    · cases e; cases rx; cases ry
      exact .inr ⟨_, _, rfl, rfl, q⟩
    · cases e
  · exact q.elim
end
/-! ### order -/
/-- data that < can tell apart -/
def ltOk (p q : PyData) : Bool := PySem.W.alike p q && (match p with
  | .none => false
  | _ => true) && decide (p.depth ≤ 32)
theorem ltOk_ok {p q : PyData} (h : ltOk p q = true) : PySem.W.alike p q = true ∧ p ≠ .none ∧ p.depth ≤ 32 := by
  unfold ltOk at h
  rw [Bool.and_eq_true, Bool.and_eq_true] at h
  refine ⟨h.1.1, fun e => ?_, of_decide_eq_true h.2⟩
  subst e
  exact absurd h.1.2 Bool.false_ne_true
def cmpV (p : Int → Int → Bool) (ps : Str → Str → Bool) (pd : PyData → PyData → Bool) : Rv → Rv → Sto → Res Rv := fun x y S => match x, y with
  | .val (.int i), .val (.int j) => .ok (.val (.bl (p i j))) S
  | .val (.str i), .val (.str j) => .ok (.val (.bl (ps i j))) S
  | x, y => match rfx x S, rfx y S with
    | some a, some b => if ltOk a b = true then .ok (.val (.bl (pd a b))) S else .bad
    | _, _ => .bad
def ltS (i j : Str) : Bool := decide (i.cps.toList < j.cps.toList)
def ltV := cmpV (fun i j => decide (i < j)) ltS PySem.W.dataLt
def leV := cmpV (fun i j => decide (i ≤ j)) (fun i j => !ltS j i) fun a b => !PySem.W.dataLt b a
def gtV := cmpV (fun i j => decide (j < i)) (fun i j => ltS j i) fun a b => PySem.W.dataLt b a
def geV := cmpV (fun i j => decide (j ≤ i)) (fun i j => !ltS i j) fun a b => !PySem.W.dataLt a b
def rCmpD (K : PySem.W.Frag) (pd : PyData → PyData → Bool) : R2 := fun x y H Q => ∃ d e, Dp K H x d ∧ Dp K H y e ∧ ltOk d e = true ∧ Q (.bl (pd d e)) H
section
variable {X : Cx}
theorem op_ltD (hu : X.A.units + 64 < cLine) : OpR X (compareOp .Lt) (rCmpD X.K PySem.W.dataLt) := fun pins s σ H x y v u Q I rx ry ⟨d, e, hd, he, hk, q⟩ => by
  obtain ⟨h1, h2, h3⟩ := ltOk_ok hk
  obtain ⟨as, r1⟩ := Dp.reads I d x v hd rx
  obtain ⟨bs, r2⟩ := Dp.reads I e y u he ry
  exact PySem.W.lt_data r1 r2 h1 h2 (by have := Nat.min_le_left d.depth e.depth; omega) ⟨.bl _, H, I, rfl, q⟩
theorem op_leD (hu : X.A.units + 64 < cLine) : OpR X (compareOp .LtE) (rCmpD X.K fun a b => !PySem.W.dataLt b a) := fun pins s σ H x y v u Q I rx ry ⟨d, e, hd, he, hk, q⟩ => by
  obtain ⟨h1, h2, h3⟩ := ltOk_ok hk
  obtain ⟨as, r1⟩ := Dp.reads I d x v hd rx
  obtain ⟨bs, r2⟩ := Dp.reads I e y u he ry
  exact PySem.W.le_data r1 r2 h1 h2 (by have := Nat.min_le_left d.depth e.depth; omega) ⟨.bl _, H, I, rfl, q⟩
theorem op_gtD (hu : X.A.units + 64 < cLine) : OpR X (compareOp .Gt) (rCmpD X.K fun a b => PySem.W.dataLt b a) := fun pins s σ H x y v u Q I rx ry ⟨d, e, hd, he, hk, q⟩ => by
  obtain ⟨h1, h2, h3⟩ := ltOk_ok hk
  obtain ⟨as, r1⟩ := Dp.reads I d x v hd rx
  obtain ⟨bs, r2⟩ := Dp.reads I e y u he ry
  exact PySem.W.gt_data r1 r2 h1 h2 (by have := Nat.min_le_left d.depth e.depth; omega) ⟨.bl _, H, I, rfl, q⟩
theorem op_geD (hu : X.A.units + 64 < cLine) : OpR X (compareOp .GtE) (rCmpD X.K fun a b => !PySem.W.dataLt a b) := fun pins s σ H x y v u Q I rx ry ⟨d, e, hd, he, hk, q⟩ => by
  obtain ⟨h1, h2, h3⟩ := ltOk_ok hk
  obtain ⟨as, r1⟩ := Dp.reads I d x v hd rx
  obtain ⟨bs, r2⟩ := Dp.reads I e y u he ry
  exact PySem.W.ge_data r1 r2 h1 h2 (by have := Nat.min_le_left d.depth e.depth; omega) ⟨.bl _, H, I, rfl, q⟩
end
theorem ok_cmpV {K : PySem.W.Frag} {p : Int → Int → Bool} {ps : Str → Str → Bool} {pd : PyData → PyData → Bool} {r r' : R2} (hK : K = G.K) (h1 : ∀ i j H Q, Q (.bl (p i j)) H → r (.int i) (.int j) H Q) (h2 : ∀ i j H Q, Q (.bl (ps i j)) H → r' (.str i) (.str j) H Q) : OkOp G E (fun x y H Q => r x y H Q ∨ r' x y H Q ∨ rCmpD K pd x y H Q) (cmpV p ps pd) := by
  intro x y S v u μ H H0 Q QE w rx ry q
  unfold cmpV at q
  split at q
  · cases rx; cases ry
    exact .inl (h1 _ _ H Q (q _ H μ Le.refl w (.bl _)))
  · cases rx; cases ry
    exact .inr (.inl (h2 _ _ H Q (q _ H μ Le.refl w (.bl _))))
  · split at q
    · rename_i a b e1 e2
      split at q
      · rename_i hk
        exact .inr (.inr ⟨a, b, by rw [hK]; exact rfx_ok w rx e1, by rw [hK]; exact rfx_ok w ry e2, hk, q _ H μ Le.refl w (.bl _)⟩)
      · exact q.elim
    · exact q.elim
theorem ok_lt {X : Cx} (hK : X.K = G.K) (hu : X.A.units + 64 < cLine) : ∃ r, OpR X (compareOp .Lt) r ∧ OkOp G E r ltV := ⟨_, OpR.or op_lt (OpR.or op_lt_str (op_ltD hu)), ok_cmpV hK (fun _ _ _ _ q => ⟨_, _, rfl, rfl, q⟩) fun _ _ _ _ q => ⟨_, _, rfl, rfl, q⟩⟩
theorem ok_le {X : Cx} (hK : X.K = G.K) (hu : X.A.units + 64 < cLine) : ∃ r, OpR X (compareOp .LtE) r ∧ OkOp G E r leV := ⟨_, OpR.or op_le (OpR.or op_le_str (op_leD hu)), ok_cmpV hK (fun _ _ _ _ q => ⟨_, _, rfl, rfl, q⟩) fun _ _ _ _ q => ⟨_, _, rfl, rfl, q⟩⟩
theorem ok_gt {X : Cx} (hK : X.K = G.K) (hu : X.A.units + 64 < cLine) : ∃ r, OpR X (compareOp .Gt) r ∧ OkOp G E r gtV := ⟨_, OpR.or op_gt (OpR.or op_gt_str (op_gtD hu)), ok_cmpV hK (fun _ _ _ _ q => ⟨_, _, rfl, rfl, q⟩) fun _ _ _ _ q => ⟨_, _, rfl, rfl, q⟩⟩
theorem ok_ge {X : Cx} (hK : X.K = G.K) (hu : X.A.units + 64 < cLine) : ∃ r, OpR X (compareOp .GtE) r ∧ OkOp G E r geV := ⟨_, OpR.or op_ge (OpR.or op_ge_str (op_geD hu)), ok_cmpV hK (fun _ _ _ _ q => ⟨_, _, rfl, rfl, q⟩) fun _ _ _ _ q => ⟨_, _, rfl, rfl, q⟩⟩
end Bz

set_option Elab.async false
set_option linter.all false
set_option maxRecDepth 100000
set_option maxHeartbeats 2000000
/-! Bz, fourth part: subscripts, slices, built-ins, methods, calls. -/
namespace Bz
open PySem PySem.Spec PyProof.Rows L2

/-! ### syntax that is plain -/
def plainE : Expr → Bool
  | .Starred .. => false
  | .Slice .. => false
  | _ => true
theorem star_plain {e : Expr} (h : plainE e = true) (es : List Expr) (env : PySem.Env) : starEach (e :: es) env = (false, eval e env) :: starEach es env := by
  cases e <;> first | rfl | (simp [plainE] at h)
theorem star_any (pos : Pos) (env : PySem.Env) : ∀ {es : List Expr}, es.all plainE = true → (backTo pos (starEach es env)).any (·.1) = false
  | [], _ => rfl
  | e :: es, h => by
    rw [List.all_cons, Bool.and_eq_true] at h
    rw [star_plain h.1]
    have := star_any pos env h.2
    show (false || (backTo pos (starEach es env)).any (·.1)) = false
    rw [this]
    rfl
theorem star_all (pos : Pos) (env : PySem.Env) : ∀ {es : List Expr}, es.all plainE = true → (backTo pos (starEach es env)).all (fun x => !x.1) = true
  | [], _ => rfl
  | e :: es, h => by
    rw [List.all_cons, Bool.and_eq_true] at h
    rw [star_plain h.1]
    have := star_all pos env h.2
    show (true && (backTo pos (starEach es env)).all (fun x => !x.1)) = true
    rw [this]
    rfl
theorem plain_ix {e : Expr} (h : plainE e = true) : PlainIx e := by
  intro o i
  cases e <;> first | rfl | (simp [plainE] at h)
def baseOk : Expr → Bool
  | .Call (.Name _ _) [] [] _ => false
  | _ => true
theorem base_plain {o : Expr} (h : baseOk o = true) (m : Str) (env : PySem.Env) (whole : Sem Value) : attributeBase o m env whole = whole := by
  unfold attributeBase
  split
  · simp [baseOk] at h
  · rfl
theorem few_ok {cpos : Pos} {env : PySem.Env} {es : List Expr} (h : es.all plainE = true) (h2 : es.length < 20) : ((backTo cpos (starEach es env)).all (fun x => !x.1) && (backToKw cpos (keywordEach [] env)).all (fun x => x.1.isSome)
      && decide (es.length + ([] : List Keyword).length + (if ([] : List Keyword).isEmpty then 0 else 1) < 30)) = true := by
  rw [star_all cpos env h]
  show (true && true && decide (es.length + 0 + 0 < 30)) = true
  rw [decide_eq_true (by omega)]
  rfl
def testPlain : Expr → Bool
  | .UnaryOp .Not _ _ => false
  | .BoolOp .. => false
  | .IfExp .. => false
  | .Compare .. => false
  | _ => true
theorem isTrue_of {e : Expr} (h : testPlain e = true) (env : PySem.Env) (whole : Sem Value) : isTrue e env whole = (do let v ← whole; standAt e.pos; holding [v] (truthy v)) := by
  cases e with
  | UnaryOp op x p => cases op <;> first | rfl | (simp [testPlain] at h)
  | _ => first | rfl | (simp [testPlain] at h)

/-- a list that is read -/
def lrdOf (x : Rv) (S : Sto) : Option (List D) := match x with
  | .new xs => some xs
  | .val (.rol xs) => some xs
  | .val (.loc n) => match S[n]? with
    | some (.lst xs) => some xs
    | _ => none
  | _ => none
theorem lrdOf_ok {G : Gm} {μ : Mp} {H H0 : Hp} {S : Sto} {x : Rv} {v : V} {xs : List D} (w : Wd G μ H S) (r : Rx G H0 μ H x v) (h : lrdOf x S = some xs) : ∃ a vs, v = .ref a ∧ SqL G.K H a vs ∧ Rs G μ H xs vs := by
  unfold lrdOf at h
  split at h
  · cases h
    obtain ⟨a, vs, e, ha, _, _, r⟩ := r
    exact ⟨a, vs, e, .of ha, r⟩
  · cases h
    cases r with
    | rol hs r => exact ⟨_, _, rfl, hs.l, r⟩
  · rename_i n
    cases r with
    | @loc n a hn =>
      split at h
      · rename_i ys e
        cases h
        obtain ⟨vs, ha, r⟩ := w.obj n a _ hn e
        exact ⟨a, vs, rfl, .of ha, r⟩
      · cases h
  · cases h

/-! ### flat values -/
def toV : D → Option V
  | .non => some .non
  | .bl b => some (.bl b)
  | .int i => some (.int i)
  | .str x => some (.str x)
  | _ => none
def toVs : List D → Option (List V)
  | [] => some []
  | x :: xs => match toV x, toVs xs with
    | some v, some vs => some (v :: vs)
    | _, _ => none
section
variable {G : Gm} {E : XK} {μ : Mp} {H H0 : Hp} {S : Sto}
theorem toV_ok {d : D} {v z : V} (r : R G μ H d v) (h : toV d = some z) : v = z ∧ flatV z = true := by
  cases r <;> first | (cases h; exact ⟨rfl, rfl⟩) | (cases h)
theorem toVs_ok : ∀ {ds : List D} {vs zs : List V}, Rs G μ H ds vs → toVs ds = some zs → vs = zs ∧ zs.all flatV = true
  | _, _, _, .nil, h => by cases h; exact ⟨rfl, rfl⟩
  | d :: ds, v :: vs, zs, .cons r t, h => by
    have h : (match toV d, toVs ds with
      | some v, some vs => some (v :: vs)
      | _, _ => none) = some zs := h
    split at h
    · rename_i a as e1 e2
      cases h
      obtain ⟨h1, h2⟩ := toV_ok r e1
      obtain ⟨h3, h4⟩ := toVs_ok t e2
      subst h1 h3
      exact ⟨rfl, by rw [List.all_cons, h2, h4]; rfl⟩
    · cases h
def toVx : Rv → Option V
  | .val d => toV d
  | .new _ => none
theorem toVx_ok {x : Rv} {v z : V} (r : Rx G H0 μ H x v) (h : toVx x = some z) : v = z ∧ flatV z = true := by
  cases x with
  | val d => exact toV_ok r h
  | new _ => cases h

/-! ### in -/
/-- data without dicts, not deep -/
def inOk (p : PyData) : Bool := p.plain && decide (p.depth ≤ 32)
def anyEq (p : PyData) : PyData → Option Bool
  | .list qs => some (qs.any fun q => PyData.eqv q p)
  | .tuple qs => some (qs.any fun q => PyData.eqv q p)
  | _ => none
def inOf (x y : Rv) (S : Sto) : Option Bool := match y with
  | .val (.str z) => match x with
    | .val (.str ⟨⟨[c]⟩⟩) => some (decide (c ∈ z.cps.toList))
    | _ => none
  | y => match seqOf y S with
    | some ys => match toVx x, toVs ys with
      | some v, some vs => some (inV v vs)
      | _, _ => (match rfx x S, rfx y S with
        | some p, some q => if inOk p && inOk q then anyEq p q else none
        | _, _ => none)
    | none => none
def inV' : Rv → Rv → Sto → Res Rv := fun x y S => match inOf x y S with
  | some b => .ok (.val (.bl b)) S
  | none => .bad
def notInV' : Rv → Rv → Sto → Res Rv := fun x y S => match inOf x y S with
  | some b => .ok (.val (.bl (!b))) S
  | none => .bad
def rInD (K : PySem.W.Frag) (f : Bool → Bool) : R2 := fun x y H Q => ∃ p q b, Dp K H x p ∧ Dp K H y q ∧ inOk p = true ∧ inOk q = true ∧ anyEq p q = some b ∧ Q (.bl (f b)) H
theorem op_inD {X : Cx} (hu : X.A.units + 64 < cLine) : OpR X (compareOp .In) (rInD X.K fun b => b) := fun pins s σ H x y v u Q I rx ry ⟨p, q, b, hp, hq, k1, k2, e, h⟩ => by
  unfold inOk at k1 k2
  rw [Bool.and_eq_true] at k1 k2
  have d1 := of_decide_eq_true k1.2
  have d2 := of_decide_eq_true k2.2
  obtain ⟨as, r1⟩ := Dp.reads I p x v hp rx
  obtain ⟨bs, r2⟩ := Dp.reads I q y u hq ry
  cases q with
  | list qs =>
    cases e
    have k3 : PyData.plainAll qs = true := by have := k2.1; rwa [PyData.plain] at this
    exact SeqAt.in_list_data r2 r1 k3 k1.1 (by have := Nat.min_le_right (PyData.depthAll qs) p.depth; omega) ⟨.bl _, H, I, rfl, h⟩
  | tuple qs =>
    cases e
    have k3 : PyData.plainAll qs = true := by have := k2.1; rwa [PyData.plain] at this
    exact SeqAt.in_tuple_data r2 r1 k3 k1.1 (by have := Nat.min_le_right (PyData.depthAll qs) p.depth; omega) ⟨.bl _, H, I, rfl, h⟩
  | _ => cases e
theorem op_notInD {X : Cx} (hu : X.A.units + 64 < cLine) : OpR X (compareOp .NotIn) (rInD X.K fun b => !b) := fun pins s σ H x y v u Q I rx ry ⟨p, q, b, hp, hq, k1, k2, e, h⟩ => by
  unfold inOk at k1 k2
  rw [Bool.and_eq_true] at k1 k2
  have d1 := of_decide_eq_true k1.2
  have d2 := of_decide_eq_true k2.2
  obtain ⟨as, r1⟩ := Dp.reads I p x v hp rx
  obtain ⟨bs, r2⟩ := Dp.reads I q y u hq ry
  cases q with
  | list qs =>
    cases e
    have k3 : PyData.plainAll qs = true := by have := k2.1; rwa [PyData.plain] at this
    exact SeqAt.notIn_list_data r2 r1 k3 k1.1 (by have := Nat.min_le_right (PyData.depthAll qs) p.depth; omega) ⟨.bl _, H, I, rfl, h⟩
  | tuple qs =>
    cases e
    have k3 : PyData.plainAll qs = true := by have := k2.1; rwa [PyData.plain] at this
    exact SeqAt.notIn_tuple_data r2 r1 k3 k1.1 (by have := Nat.min_le_right (PyData.depthAll qs) p.depth; omega) ⟨.bl _, H, I, rfl, h⟩
  | _ => cases e
theorem inOf_ok {x y : Rv} {v u : V} {b : Bool} (w : Wd G μ H S) (rx : Rx G H0 μ H x v) (ry : Rx G H0 μ H y u) (h : inOf x y S = some b) :
    (∃ c z, v = .str ⟨#[c]⟩ ∧ u = .str z ∧ decide (c ∈ z.cps.toList) = b) ∨ (∃ p xs, u = .ref p ∧ (SqL G.K H p xs ∨ SqT G.K H p xs) ∧ flatV v = true ∧ xs.all flatV = true ∧ inV v xs = b) ∨ ∃ p q, Dp G.K H v p ∧ Dp G.K H u q ∧ inOk p = true ∧ inOk q = true ∧ anyEq p q = some b := by
  unfold inOf at h
  split at h
  · split at h
    · cases h; cases rx; cases ry
      exact .inl ⟨_, _, rfl, rfl, rfl⟩
    · cases h
  · split at h
    · rename_i ys e
      split at h
      · rename_i z zs e1 e2
        cases h
        obtain ⟨a, vs, e3, hs, rs⟩ := seqOf_ok w ry e
        obtain ⟨h1, h2⟩ := toVx_ok rx e1
        obtain ⟨h3, h4⟩ := toVs_ok rs e2
        subst h1 h3
        exact .inr (.inl ⟨a, vs, e3, hs, h2, h4, rfl⟩)
      · split at h
        · rename_i p q e1 e2
          split at h
          · rename_i hk
            rw [Bool.and_eq_true] at hk
            exact .inr (.inr ⟨p, q, rfx_ok w rx e1, rfx_ok w ry e2, hk.1, hk.2, h⟩)
          · cases h
        · cases h
    · cases h
theorem ok_in {X : Cx} (hK : X.K = G.K) (hu : X.A.units + 64 < cLine) : ∃ r, OpR X (compareOp .In) r ∧ OkOp G E r inV' := by
  refine ⟨_, OpR.or op_in_sign (OpR.or op_in_seq (op_inD hu)), ?_⟩
  intro x y S v u μ H H0 Q QE w rx ry q
  unfold inV' at q
  split at q
  · rename_i b e
    have q := q _ H μ Le.refl w (.bl b)
    rcases inOf_ok w rx ry e with ⟨c, z, h1, h2, h3⟩ | ⟨p, xs, h1, h2, h3, h4, h5⟩ | ⟨p, r, h1, h2, h3, h4, h5⟩
    · exact .inl ⟨c, z, h1, h2, by rw [h3]; exact q⟩
    · exact .inr (.inl ⟨p, xs, h1, by rw [hK]; exact h2, h3, h4, by rw [if_neg Bool.false_ne_true, h5]; exact q⟩)
    · exact .inr (.inr ⟨p, r, b, by rw [hK]; exact h1, by rw [hK]; exact h2, h3, h4, h5, q⟩)
  · exact q.elim
theorem ok_notin {X : Cx} (hK : X.K = G.K) (hu : X.A.units + 64 < cLine) : ∃ r, OpR X (compareOp .NotIn) r ∧ OkOp G E r notInV' := by
  refine ⟨_, OpR.or op_notIn_sign (OpR.or op_notIn_seq (op_notInD hu)), ?_⟩
  intro x y S v u μ H H0 Q QE w rx ry q
  unfold notInV' at q
  split at q
  · rename_i b e
    have q := q _ H μ Le.refl w (.bl _)
    rcases inOf_ok w rx ry e with ⟨c, z, h1, h2, h3⟩ | ⟨p, xs, h1, h2, h3, h4, h5⟩ | ⟨p, r, h1, h2, h3, h4, h5⟩
    · exact .inl ⟨c, z, h1, h2, by rw [h3]; exact q⟩
    · exact .inr (.inl ⟨p, xs, h1, by rw [hK]; exact h2, h3, h4, by rw [if_pos rfl, h5]; exact q⟩)
    · exact .inr (.inr ⟨p, r, b, by rw [hK]; exact h1, by rw [hK]; exact h2, h3, h4, h5, q⟩)
  · exact q.elim

/-! ### subscripts -/
theorem Rs.atI {ds : List D} {vs : List V} {i : Int} {d : D} (r : Rs G μ H ds vs) (h : atI ds i = some d) : ∃ v, L2.atI vs i = some v ∧ R G μ H d v := by
  unfold L2.atI at h ⊢
  rw [← r.length]
  cases e : ixN ds.length i with
  | none => rw [e] at h; cases h
  | some j =>
    rw [e] at h
    exact r.get h
def ixV : Rv → Rv → Sto → Res Rv := fun x y S => match y with
  | .val (.int i) => match x with
    | .val (.str z) => if z.length ≤ big then (match atI z.cps.toList i with
      | some c => .ok (.val (.str ⟨#[c]⟩)) S
      | none => .bad) else .bad
    | x => match seqOf x S with
      | some xs => (match atI xs i with
        | some d => .ok (.val d) S
        | none => .bad)
      | none => .bad
  | _ => .bad
theorem ok_ix {X : Cx} (hK : X.K = G.K) : ∃ r, IxR X r ∧ OkOp G E r ixV := by
  refine ⟨_, ix_seq, ?_⟩
  intro x y S v u μ H H0 Q QE w rx ry q
  unfold ixV at q
  split at q
  · rename_i i
    cases ry
    split at q
    · split at q
      · rename_i z hz
        split at q
        · rename_i c e
          cases rx
          exact .inr (.inr ⟨_, _, c, rfl, rfl, big_le hz, e, q _ H μ Le.refl w (.str _)⟩)
        · exact q.elim
      · exact q.elim
    · split at q
      · rename_i xs e
        split at q
        · rename_i d e2
          obtain ⟨a, vs, e3, hs, rs⟩ := seqOf_ok w rx e
          obtain ⟨v', h1, h2⟩ := rs.atI e2
          have q := q v' H μ Le.refl w h2
          rcases hs with hs | hs
          · exact .inl ⟨a, vs, i, v', e3, rfl, by rw [hK]; exact hs, h1, q⟩
          · exact .inr (.inl ⟨a, vs, i, v', e3, rfl, by rw [hK]; exact hs, h1, q⟩)
        · exact q.elim
      · exact q.elim
  · exact q.elim
/-- a part of a slice -/
def ptNo : Env → Sto → Res (Option Int) := fun _ S => .ok none S
def ptI (f : ExM) : Env → Sto → Res (Option Int) := fun env S => bnd (f env S) fun x S1 => match x with
  | .val (.int i) => .ok (some i) S1
  | _ => .bad
def tPt (G : Gm) (E : XK) (f : Env → Sto → Res (Option Int)) : TO := fun σ H Q => ∃ μ S env, Wd G μ H S ∧ EnvR G μ H env σ ∧ Post (f env S) (fun o S' => ∀ H' μ', Le μ H μ' H' → Wd G μ' H' S' → Q o H') (ExP G E μ H)
theorem PO.wk {X : Cx} {e : Option Expr} {t t' : TO} (h : PO X e t) (k : ∀ σ H Q, t' σ H Q → t σ H Q) : PO X e t' := ⟨fun pins s σ H Q I q => h.run pins s σ H Q I (k σ H Q q)⟩
theorem dp_none {X : Cx} : PO X none (tPt G E ptNo) := PO.wk po_none fun σ H Q ⟨μ, S, env, w, er, h⟩ => h H μ Le.refl w
theorem dp_some {X : Cx} {e : Expr} {fa : ExM} (he : PE X e (tD G E fa)) : PO X (some e) (tPt G E (ptI fa)) := PO.wk (po_some he) fun σ H Q ⟨μ, S, env, w, er, h⟩ =>
  tD_go w er (post_bnd.1 h) fun x S1 v H1 μ1 l1 w1 er1 rx h1 => by
    split at h1
    · cases rx
      exact ⟨_, rfl, h1 H1 μ1 l1 w1⟩
    · exact h1.elim
def cutD (xs : List D) (lo hi : Option Int) : List D := (xs.drop (HT.sIx xs.length 0 lo)).take (HT.sIx xs.length xs.length hi - HT.sIx xs.length 0 lo)
theorem Rs.cut {ds : List D} {vs : List V} (r : Rs G μ H ds vs) (lo hi : Option Int) : Rs G μ H (cutD ds lo hi) (cutV vs lo hi) := by
  unfold cutD cutV
  rw [← r.length]
  exact (r.drop _).take _
def slV (x : Rv) (lo hi : Option Int) (S : Sto) : Res Rv := match x with
  | .val (.str z) => if z.length ≤ big then .ok (.val (.str (cutS z lo hi))) S else .bad
  | .val (.tup xs) => .ok (.val (.tup (cutD xs lo hi))) S
  | x => match lrdOf x S with
    | some xs => .ok (.new (cutD xs lo hi)) S
    | none => .bad
def eSl (fa : ExM) (p1 p2 : Env → Sto → Res (Option Int)) : ExM := fun env S => bnd (fa env S) fun x S1 => bnd (p1 env S1) fun lo S2 => bnd (p2 env S2) fun hi S3 => slV x lo hi S3
theorem cut_whole {ds : List D} {lo hi : Option Int} (h : HT.sIx ds.length 0 lo = 0 ∧ HT.sIx ds.length ds.length hi = ds.length) : cutD ds lo hi = ds := by
  unfold cutD
  rw [h.1, h.2, List.drop_zero, Nat.sub_zero, List.take_length]
theorem de_sl {X : Cx} {a : Expr} {lo hi : Option Expr} {p2 pos : Pos} {fa : ExM} {f1 f2 : Env → Sto → Res (Option Int)} (hK : X.K = G.K) (ha : PE X a (tD G E fa)) (h1 : PO X lo (tPt G E f1)) (h2 : PO X hi (tPt G E f2)) :
    PE X (.Subscript a (.Slice lo hi none p2) pos) (tD G E (eSl fa f1 f2)) :=
  PE.wk (pe_slice (SlR.or sl_str (SlR.or sl_tupA sl_list)) ha h1 h2) fun σ H Q ⟨μ, S, env, w, er, h⟩ => tD_go w er (post_bnd.1 h) fun x S1 v H1 μ1 l1 w1 er1 rx h1 =>
    ⟨μ1, S1, env, w1, er1, post_ex l1 (post_bnd.1 h1) fun o1 S2 h2 H2 μ2 l2 w2 => ⟨μ2, S2, env, w2, l2.envR w1 er1, post_ex (l1.trans l2) (post_bnd.1 h2) fun o2 S3 h3 H3 μ3 l3 w3 => by
      have l := (l1.trans l2).trans l3
      have rx := (l2.trans l3).rx w1 rx
      unfold slV at h3
      split at h3
      · split at h3
        · rename_i z hz
          cases rx
          exact .inl ⟨_, rfl, big_le hz, h3 _ H3 μ3 l w3 (.str _)⟩
        · exact h3.elim
      · rename_i xs
        cases rx with
        | @tup _ b vs hs rs =>
          refine .inr (.inl ⟨b, vs, rfl, by rw [hK]; exact hs, fun hw => ?_, fun hw p hp => ?_⟩)
          · rw [← rs.length] at hw
            rw [cut_whole hw] at h3
            exact h3 _ H3 μ3 l w3 (.tup hs rs)
          · exact h3 _ _ μ3 (l.trans (Le.laid hp)) (w3.laid hp) (R.fresh w3 hp (rs.cut o1 o2))
      · split at h3
        · rename_i xs e
          obtain ⟨b, vs, e3, hs, rs⟩ := lrdOf_ok w3 rx e
          exact .inr (.inr ⟨b, vs, e3, by rw [hK]; exact hs, fun p hp => h3 _ _ μ3 (l.trans (Le.laid hp)) (w3.laid hp) (Rx.fresh w3 hp (l.free hp) (rs.cut o1 o2))⟩)
        · exact h3.elim⟩⟩

/-! ### built-ins -/
def OkB1 (G : Gm) (r : List V → Hp → VK → Prop) (g : Rv → Sto → Res Rv) : Prop :=
  ∀ (x : Rv) (S : Sto) (v : V) (μ : Mp) (H H0 : Hp) (Q : VK) (QE : Exn → Sto → Prop), Wd G μ H S → Rx G H0 μ H x v → Post (g x S) (Gd G μ H Q) QE → r [v] H Q
def OkB2 (G : Gm) (r : List V → Hp → VK → Prop) (g : Rv → Rv → Sto → Res Rv) : Prop :=
  ∀ (x y : Rv) (S : Sto) (v u : V) (μ : Mp) (H H0 : Hp) (Q : VK) (QE : Exn → Sto → Prop), Wd G μ H S → Rx G H0 μ H x v → Rx G H0 μ H y u → Post (g x y S) (Gd G μ H Q) QE → r [v, u] H Q
section
variable {X : Cx} {a b : Expr} {fa fb : ExM} {id T : String} {x : Str} {r : List V → Hp → VK → Prop} {p pos : Pos} {g : Rv → Sto → Res Rv} {g2 : Rv → Rv → Sto → Res Rv}
theorem star1 (h : plainE a = true) (env : PySem.Env) : starEach [a] env = (false, eval a env) :: starEach [] env := star_plain h _ env
theorem tB1 (o : OkB1 G r g) {σ : L2.St} {H : Hp} {Q : VK} (h : tD G E (eUn g fa) σ H Q) : tCB r (tCons (tD G E fa) tNil) σ H Q := by
  obtain ⟨μ, S, env, w, er, h⟩ := h
  exact tD_go w er (post_bnd.1 h) fun x S1 v H1 μ1 l1 w1 er1 rx h1 => o x S1 v μ1 H1 H Q _ w1 rx (h1.imp (fun _ _ z => z.up l1) fun _ _ z => z)
theorem tB2 (o : OkB2 G r g2) {σ : L2.St} {H : Hp} {Q : VK} (h : tD G E (eBin g2 fa fb) σ H Q) : tCB r (tCons (tD G E fa) (tCons (tD G E fb) tNil)) σ H Q := by
  obtain ⟨μ, S, env, w, er, h⟩ := h
  refine tD_go w er (post_bnd.1 h) fun x S1 v H1 μ1 l1 w1 er1 rx h1 => ?_
  refine tD_go w1 er1 (post_ex l1 (post_bnd.1 h1) fun _ _ z => z) fun y S2 u H2 μ2 l2 w2 er2 ry h2 => ?_
  exact o x y S2 v u μ2 H2 H Q _ w2 (l2.rx w1 rx) (l1.rx0 ry) (h2.imp (fun _ _ z => z.up (l1.trans l2)) fun _ _ z => z)
theorem de_b1 (hc : CallR X (.builtin id) r) (o : OkB1 G r g) (hg : Gl X x) (hm : X.mg x = none) (hv : bootBuiltins x = some (.builtin id)) (hn : x ≠ "__name__") (hd : (x == ("__debug__" : Str)) = false) (hp : plainE a = true) (ha : PE X a (tD G E fa)) :
    PE X (.Call (.Name x p) [a] [] pos) (tD G E (eUn g fa)) :=
  PE.wk (pe_callB hc hg hm hv (pa_cons ha pa_nil (star_plain hp _ _)) hn hd (star_plain hp _ _) rfl) fun _ _ _ h => tB1 o h
theorem de_t1 (hc : CallR X (.type T) r) (o : OkB1 G r g) (hg : Gl X x) (hm : X.mg x = none) (hv : bootBuiltins x = some (.type T)) (hn : x ≠ "__name__") (hd : (x == ("__debug__" : Str)) = false) (hp : plainE a = true) (ha : PE X a (tD G E fa)) :
    PE X (.Call (.Name x p) [a] [] pos) (tD G E (eUn g fa)) :=
  PE.wk (pe_callTy hc hg hm hv (pa_cons ha pa_nil (star_plain hp _ _)) hn hd (star_plain hp _ _) rfl) fun _ _ _ h => tB1 o h
theorem de_b2 (hc : CallR X (.builtin id) r) (o : OkB2 G r g2) (hg : Gl X x) (hm : X.mg x = none) (hv : bootBuiltins x = some (.builtin id)) (hn : x ≠ "__name__") (hd : (x == ("__debug__" : Str)) = false) (hp : plainE a = true) (hp2 : plainE b = true) (ha : PE X a (tD G E fa)) (hb : PE X b (tD G E fb)) :
    PE X (.Call (.Name x p) [a, b] [] pos) (tD G E (eBin g2 fa fb)) :=
  PE.wk (pe_callB hc hg hm hv (pa_cons ha (pa_cons hb pa_nil (star_plain hp2 _ _)) (star_plain hp _ _)) hn hd (star_plain hp _ _) (star_any pos _ (es := [b]) (by simp [hp2]))) fun _ _ _ h => tB2 o h
end
def lenV (x : Rv) (S : Sto) : Res Rv := match x with
  | .val (.str z) => if z.length ≤ big then .ok (.val (.int z.length)) S else .bad
  | x => match seqOf x S with
    | some xs => .ok (.val (.int xs.length)) S
    | none => .bad
theorem ok_len {X : Cx} (hK : X.K = G.K) : ∃ r, CallR X (.builtin "len") r ∧ OkB1 G r lenV := by
  refine ⟨_, call_len, ?_⟩
  intro x S v μ H H0 Q QE w rx q
  unfold lenV at q
  split at q
  · split at q
    · rename_i z hz
      cases rx
      exact ⟨_, _, rfl, ⟨big_le hz, rfl⟩, q _ H μ Le.refl w (.int _)⟩
    · exact q.elim
  · split at q
    · rename_i xs e
      obtain ⟨b, vs, e3, hs, rs⟩ := seqOf_ok w rx e
      subst e3
      have q := q _ H μ Le.refl w (.int _)
      rw [rs.length] at q
      rw [hK]
      rcases hs with hs | hs
      · exact ⟨_, _, rfl, .inl ⟨vs, hs, rfl⟩, q⟩
      · exact ⟨_, _, rfl, .inr ⟨vs, hs, rfl⟩, q⟩
    · exact q.elim
def absI (x : Rv) (S : Sto) : Res Rv := match x with
  | .val (.int i) => .ok (.val (.int (if i < 0 then -i else i))) S
  | _ => .bad
theorem ok_abs {X : Cx} : ∃ r, CallR X (.builtin "abs") r ∧ OkB1 G r absI := by
  refine ⟨_, call_abs, ?_⟩
  intro x S v μ H H0 Q QE w rx q
  unfold absI at q
  split at q
  · cases rx
    exact ⟨_, rfl, q _ H μ Le.refl w (.int _)⟩
  · exact q.elim
def maxV : Rv → Rv → Sto → Res Rv := intI (fun _ _ => true) fun i j => if j > i then j else i
def minV : Rv → Rv → Sto → Res Rv := intI (fun _ _ => true) fun i j => if j < i then j else i
theorem ok_max {X : Cx} (hc : X.calm = true) : ∃ r, CallR X (.builtin "max") r ∧ OkB2 G r maxV := by
  refine ⟨_, call_max2 hc, ?_⟩
  intro x y S v u μ H H0 Q QE w rx ry q
  unfold maxV intI at q
  split at q
  · split at q
    · cases rx; cases ry
      exact ⟨_, _, rfl, q _ H μ Le.refl w (.int _)⟩
    · exact q.elim
  · exact q.elim
theorem ok_min {X : Cx} (hc : X.calm = true) : ∃ r, CallR X (.builtin "min") r ∧ OkB2 G r minV := by
  refine ⟨_, call_min2 hc, ?_⟩
  intro x y S v u μ H H0 Q QE w rx ry q
  unfold minV intI at q
  split at q
  · split at q
    · cases rx; cases ry
      exact ⟨_, _, rfl, q _ H μ Le.refl w (.int _)⟩
    · exact q.elim
  · exact q.elim
def intsOf : List D → Option (List Int)
  | [] => some []
  | .int i :: ds => (intsOf ds).map (i :: ·)
  | _ :: _ => none
theorem intsOf_ok : ∀ {ds : List D} {ns : List Int} {vs : List V}, intsOf ds = some ns → Rs G μ H ds vs → vs = ns.map V.int
  | [], _, _, e, r => by cases e; cases r; rfl
  | d :: ds, ns, _, e, r => by
    cases r with
    | cons h t =>
      cases d with
      | int i =>
        obtain ⟨ms, e1, e2⟩ := Option.map_eq_some_iff.mp (show (intsOf ds).map (i :: ·) = some ns from e)
        subst e2
        cases h
        rw [intsOf_ok e1 t]
        rfl
      | _ => cases e
def blsOf : List D → Option (List Bool)
  | [] => some []
  | .bl i :: ds => (blsOf ds).map (i :: ·)
  | _ :: _ => none
theorem blsOf_ok : ∀ {ds : List D} {ns : List Bool} {vs : List V}, blsOf ds = some ns → Rs G μ H ds vs → vs = ns.map V.bl
  | [], _, _, e, r => by cases e; cases r; rfl
  | d :: ds, ns, _, e, r => by
    cases r with
    | cons h t =>
      cases d with
      | bl i =>
        obtain ⟨ms, e1, e2⟩ := Option.map_eq_some_iff.mp (show (blsOf ds).map (i :: ·) = some ns from e)
        subst e2
        cases h
        rw [blsOf_ok e1 t]
        rfl
      | _ => cases e
def sumV (x : Rv) (S : Sto) : Res Rv := match (lrdOf x S).bind intsOf with
  | some ns => .ok (.val (.int ns.sum)) S
  | none => .bad
theorem ok_sum {X : Cx} (hK : X.K = G.K) (hc : X.calm = true) : ∃ r, CallR X (.builtin "sum") r ∧ OkB1 G r sumV := by
  refine ⟨_, cr_sum hc, ?_⟩
  intro x S v μ H H0 Q QE w rx q
  unfold sumV at q
  split at q
  · rename_i ns e
    obtain ⟨xs, e1, e2⟩ := Option.bind_eq_some_iff.mp e
    obtain ⟨b, vs, e3, hs, rs⟩ := lrdOf_ok w rx e1
    subst e3
    have := intsOf_ok e2 rs
    subst this
    exact ⟨b, ns, rfl, by rw [hK]; exact hs, q _ H μ Le.refl w (.int _)⟩
  · exact q.elim
def allV (x : Rv) (S : Sto) : Res Rv := match (lrdOf x S).bind blsOf with
  | some ns => .ok (.val (.bl (ns.all id))) S
  | none => .bad
theorem ok_all {X : Cx} (hK : X.K = G.K) (hc : X.calm = true) : ∃ r, CallR X (.builtin "all") r ∧ OkB1 G r allV := by
  refine ⟨_, cr_all hc, ?_⟩
  intro x S v μ H H0 Q QE w rx q
  unfold allV at q
  split at q
  · rename_i ns e
    obtain ⟨xs, e1, e2⟩ := Option.bind_eq_some_iff.mp e
    obtain ⟨b, vs, e3, hs, rs⟩ := lrdOf_ok w rx e1
    subst e3
    have := blsOf_ok e2 rs
    subst this
    exact ⟨b, ns, rfl, by rw [hK]; exact hs, q _ H μ Le.refl w (.bl _)⟩
  · exact q.elim
def listV (x : Rv) (S : Sto) : Res Rv := match seqOf x S with
  | some xs => .ok (.new xs) S
  | none => .bad
theorem ok_list {X : Cx} (hK : X.K = G.K) : ∃ r, CallR X (.type "list") r ∧ OkB1 G r listV := by
  refine ⟨_, call_list_of, ?_⟩
  intro x S v μ H H0 Q QE w rx q
  unfold listV at q
  split at q
  · rename_i xs e
    obtain ⟨b, vs, e3, hs, rs⟩ := seqOf_ok w rx e
    subst e3
    exact ⟨b, vs, rfl, by rw [hK]; exact hs, fun p hp => q _ _ μ (Le.laid hp) (w.laid hp) (Rx.fresh w hp hp rs)⟩
  · exact q.elim
def tupleV (x : Rv) (S : Sto) : Res Rv := match x with
  | .val (.tup xs) => .ok (.val (.tup xs)) S
  | x => match lrdOf x S with
    | some xs => .ok (.val (.tup xs)) S
    | none => .bad
theorem ok_tuple {X : Cx} (hK : X.K = G.K) : ∃ r, CallR X (.type "tuple") r ∧ OkB1 G r tupleV := by
  refine ⟨_, call_tuple_of, ?_⟩
  intro x S v μ H H0 Q QE w rx q
  unfold tupleV at q
  split at q
  · cases rx with
    | @tup _ b vs hs rs => exact ⟨b, vs, rfl, .inr ⟨by rw [hK]; exact hs, q _ H μ Le.refl w (.tup hs rs)⟩⟩
  · split at q
    · rename_i xs e
      obtain ⟨b, vs, e3, hs, rs⟩ := lrdOf_ok w rx e
      subst e3
      exact ⟨b, vs, rfl, .inl ⟨by rw [hK]; exact hs, fun p hp => q _ _ μ (Le.laid hp) (w.laid hp) (R.fresh w hp rs)⟩⟩
    · exact q.elim

/-! ### isinstance -/
inductive Ty where
  | none | bool | int | str | tuple | list | dict
  deriving DecidableEq
def Ty.nm : Ty → String
  | .none => "NoneType" | .bool => "bool" | .int => "int" | .str => "str" | .tuple => "tuple" | .list => "list" | .dict => "dict"
def isi (t T : Ty) : Bool := t == T || (t == .bool && T == .int)
theorem isi_ok : ∀ t T : Ty, T ≠ .none → kitB t.nm T.nm = some (isi t T) := by
  intro t T h
  cases t <;> cases T <;> first | (exact absurd rfl h) | decide +kernel
def tyOf (x : Rv) (S : Sto) : Option Ty := match x with
  | .val .non => some .none
  | .val (.bl _) => some .bool
  | .val (.int _) => some .int
  | .val (.str _) => some .str
  | .val (.tup _) => some .tuple
  | .val (.rol _) => some .list
  | .val (.loc n) => match S[n]? with
    | some (.lst _) => some .list
    | _ => none
  | .val (.fn _) => none
  | .new _ => some .list
theorem SqT.tyX {K : PySem.W.Frag} {a : Addr} {vs : List V} (h : SqT K H a vs) : TyX K H (.ref a) (.type "tuple") := by
  rcases h with (h | ⟨o, h⟩) | ⟨o, its, n, hk, hc, _⟩
  · exact .base (.tup h)
  · exact .fTuple h
  · exact .kTuple hk hc
theorem SqF.tyX {K : PySem.W.Frag} {a : Addr} {vs : List V} (h : SqF K H a vs) : TyX K H (.ref a) (.type "list") := by
  rcases h with ⟨o, h⟩ | ⟨o, its, n, hk, hc, _⟩
  · exact .base (.frz h)
  · exact .kList hk hc
theorem tyOf_ok {x : Rv} {v : V} {t : Ty} (w : Wd G μ H S) (r : Rx G H0 μ H x v) (h : tyOf x S = some t) : TyX G.K H v (.type t.nm) := by
  unfold tyOf at h
  split at h
  · cases h; cases r; exact .base .non
  · cases h; cases r; exact .base (.bl _)
  · cases h; cases r; exact .base (.int _)
  · cases h; cases r; exact .base (.str _)
  · cases h
    cases r with
    | tup hs rs => exact SqT.tyX hs
  · cases h
    cases r with
    | rol hs rs => exact SqF.tyX hs
  · rename_i n
    cases r with
    | @loc n a hn =>
      split at h
      · rename_i ys e
        cases h
        obtain ⟨vs, ha, r⟩ := w.obj n a _ hn e
        exact .base (.lst ha)
      · cases h
  · cases h
  · cases h
    obtain ⟨a, vs, e, ha, _⟩ := r
    subst e
    exact .base (.lst ha)
def isiV (T : Ty) (x : Rv) (S : Sto) : Res Rv := match tyOf x S with
  | some t => .ok (.val (.bl (isi t T))) S
  | none => .bad
section
variable {X : Cx} {a : Expr} {fa : ExM} {p p2 pos : Pos} {n : Str}
theorem de_isi (hK : X.K = G.K) {T : Ty} (hT : T ≠ .none) (hg : Gl X "isinstance") (hm : X.mg "isinstance" = none) (hg2 : Gl X n) (hm2 : X.mg n = none) (hv : bootBuiltins n = some (.type T.nm)) (hn : n ≠ "__name__") (hd : (n == ("__debug__" : Str)) = false) (hp : plainE a = true) (ha : PE X a (tD G E fa)) :
    PE X (.Call (.Name "isinstance" p) [a, .Name n p2] [] pos) (tD G E (eUn (isiV T) fa)) := by
  have hb : PE X (.Name n p2) (tC (.ty T.nm)) := pe_bltn hg2 hm2 hv rfl hn hd
  refine PE.wk (pe_callB call_isi hg hm (by decide +kernel) (pa_cons ha (pa_cons hb pa_nil rfl) (star_plain hp _ _)) (by decide) (by decide) (star_plain hp _ _) rfl) fun σ H Q h => ?_
  obtain ⟨μ, S, env, w, er, h⟩ := h
  refine tD_go w er (post_bnd.1 h) fun x S1 v H1 μ1 l1 w1 er1 rx h1 => ?_
  unfold isiV at h1
  split at h1
  · rename_i t e
    exact ⟨v, .ty T.nm, .type t.nm, .type T.nm, isi t T, rfl, .ty _, by rw [hK]; exact tyOf_ok w1 rx e, kit_ty (isi_ok t T hT), h1 _ H1 μ1 l1 w1 (.bl _)⟩
  · exact h1.elim
end

/-! ### a def's call -/
abbrev FnM := List D → Sto → Res D
def spF (G : Gm) (np : Nat) (g : FnM) : Sp := fun vs H Q E => vs.length = np ∧ ∃ μ S ds, Wd G μ H S ∧ Rs G μ H ds vs ∧ Post (g ds S) (fun d S' => ∀ v H' μ', Le μ H μ' H' → Wd G μ' H' S' → R G μ' H' d v → Q v H') (ExP G E μ H)
def eCall (g : FnM) (fa : ArM) : ExM := fun env S => bnd (fa env S) fun ds S1 => bnd (g ds S1) fun d S2 => .ok (.val d) S2
theorem tCall_of {np : Nat} {g : FnM} {fa : ArM} (hn : ∀ ds S, ds.length ≠ np → g ds S = .bad) {σ : L2.St} {H : Hp} {Q : VK} (h : tD G E (eCall g fa) σ H Q) : tCall (spF G np g) [] E (tAr G E fa) σ H Q := by
  obtain ⟨μ, S, env, w, er, h⟩ := h
  refine tAr_go w er (post_bnd.1 h) fun ds S1 vs H1 μ1 l1 w1 er1 rs h1 => ?_
  show spF G np g (vs ++ []) H1 Q E
  rw [List.append_nil]
  have h1 := post_bnd.1 h1
  refine ⟨?_, μ1, S1, ds, w1, rs, post_ex l1 h1 fun d S2 q v H2 μ2 l2 w2 r => q v H2 μ2 (l1.trans l2) w2 r⟩
  rw [← rs.length]
  refine Classical.byContradiction fun z => ?_
  rw [hn ds S1 z] at h1
  exact h1
end
end Bz

set_option Elab.async false
set_option linter.all false
set_option maxRecDepth 100000
set_option maxHeartbeats 2000000
/-! Bz, fifth part: methods, what is walked, comprehensions. -/
namespace Bz
open PySem PySem.Spec PyProof.Rows L2

mutual
def D.same : D → D → Bool
  | .non, .non => true
  | .bl a, .bl b => a == b
  | .int a, .int b => a == b
  | .str a, .str b => decide (a = b)
  | .tup a, .tup b => Ds.same a b
  | .rol a, .rol b => Ds.same a b
  | .loc a, .loc b => a == b
  | .fn a, .fn b => decide (a = b)
  | _, _ => false
def Ds.same : List D → List D → Bool
  | [], [] => true
  | a :: as, b :: bs => D.same a b && Ds.same as bs
  | _, _ => false
end
mutual
theorem D.same_eq : ∀ (a b : D), D.same a b = true → a = b
  | .non, b, h => by cases b <;> first | rfl | (simp [D.same] at h)
  | .bl _, b, h => by cases b <;> first | (simp [D.same] at h; rw [h]) | (simp [D.same] at h)
  | .int _, b, h => by cases b <;> first | (simp [D.same] at h; rw [h]) | (simp [D.same] at h)
  | .str _, b, h => by cases b <;> first | (simp [D.same] at h; rw [h]) | (simp [D.same] at h)
  | .loc _, b, h => by cases b <;> first | (simp [D.same] at h; rw [h]) | (simp [D.same] at h)
  | .fn _, b, h => by cases b <;> first | (simp [D.same] at h; rw [h]) | (simp [D.same] at h)
  | .tup x, b, h => by
    cases b with
    | tup y => rw [Ds.same_eq x y (by simpa [D.same] using h)]
    | _ => simp [D.same] at h
  | .rol x, b, h => by
    cases b with
    | rol y => rw [Ds.same_eq x y (by simpa [D.same] using h)]
    | _ => simp [D.same] at h
theorem Ds.same_eq : ∀ (a b : List D), Ds.same a b = true → a = b
  | [], b, h => by cases b <;> first | rfl | (simp [Ds.same] at h)
  | x :: xs, b, h => by
    cases b with
    | nil => simp [Ds.same] at h
    | cons y ys =>
      have h : (D.same x y && Ds.same xs ys) = true := by simpa [Ds.same] using h
      rw [Bool.and_eq_true] at h
      rw [D.same_eq x y h.1, Ds.same_eq xs ys h.2]
end
mutual
theorem D.same_refl : ∀ (a : D), D.same a a = true
  | .non => by simp [D.same]
  | .bl _ => by simp [D.same]
  | .int _ => by simp [D.same]
  | .str _ => by simp [D.same]
  | .loc _ => by simp [D.same]
  | .fn _ => by simp [D.same]
  | .tup x => by simp [D.same, Ds.same_refl x]
  | .rol x => by simp [D.same, Ds.same_refl x]
theorem Ds.same_refl : ∀ (a : List D), Ds.same a a = true
  | [] => by simp [Ds.same]
  | x :: xs => by simp [Ds.same, D.same_refl x, Ds.same_refl xs]
end
instance : DecidableEq D := fun a b => if h : D.same a b = true then .isTrue (D.same_eq a b h) else .isFalse fun e => h (by rw [e]; exact D.same_refl b)
instance : DecidableEq Ob := fun a b => match a, b with
  | .lst x, .lst y => if h : x = y then .isTrue (by rw [h]) else .isFalse fun e => h (Ob.lst.inj e)

/-! ### methods of lists -/
def eM1 (t : Ty) (g : Rv → D → Sto → Res Rv) (fo fa : ExM) : ExM := fun env S => bnd (fo env S) fun x S1 => if tyOf x S1 = some t then bnd (fa env S1) fun y S2 => bnd (stl y S2) fun d S3 => g x d S3 else .bad
def eM0 (t : Ty) (g : Rv → Sto → Res Rv) (fo : ExM) : ExM := fun env S => bnd (fo env S) fun x S1 => if tyOf x S1 = some t then g x S1 else .bad
def eM2 (t : Ty) (g : Rv → D → D → Sto → Res Rv) (fo fa fb : ExM) : ExM := fun env S => bnd (fo env S) fun x S1 => if tyOf x S1 = some t then bnd (fa env S1) fun y S2 => bnd (stl y S2) fun d S3 => bnd (fb env S3) fun z S4 => bnd (stl z S4) fun e S5 => g x d e S5 else .bad
section
variable {G : Gm} {E : XK} {μ : Mp} {H H0 : Hp} {S : Sto} {X : Cx}
theorem tyV_list {x : Rv} {v : V} (w : Wd G μ H S) (r : Rx G H0 μ H x v) (h : tyOf x S = some .list) : tyV G.K "list" v H := by
  unfold tyOf at h
  split at h <;> try cases h
  · cases r with
    | rol hs rs => exact .inl ⟨rfl, _, hs.l⟩
  · rename_i n
    cases r with
    | @loc n a hn =>
      split at h
      · rename_i ys e
        obtain ⟨vs, ha, r⟩ := w.obj n a _ hn e
        exact .inl ⟨rfl, vs, .of ha⟩
      · cases h
  · obtain ⟨a, vs, e, ha, _⟩ := r
    subst e
    exact .inl ⟨rfl, vs, .of ha⟩
def OkM (G : Gm) (r : V → List V → Hp → VK → Prop) (g : Rv → List D → Sto → Res Rv) : Prop :=
  ∀ (x : Rv) (ds : List D) (S : Sto) (v : V) (vs : List V) (μ : Mp) (H H0 : Hp) (Q : VK) (QE : Exn → Sto → Prop), Wd G μ H S → Rx G H0 μ H x v → Rs G μ H ds vs → Post (g x ds S) (Gd G μ H Q) QE → r v vs H Q
variable {o a b : Expr} {fo fa fb : ExM} {name : Str} {id : String} {r : V → List V → Hp → VK → Prop} {apos cpos : Pos}
theorem de_lm0 {g : Rv → List D → Sto → Res Rv} (hK : X.K = G.K) (slot : Slot "list" name id) (hty : typeOf (.builtin id) = pure (.type "method_descriptor")) (hm : MtR X id r) (ok : OkM G r g) (hb : baseOk o = true) (hl : (apos.endLine == cpos.line) = true) (ho : PE X o (tD G E fo)) :
    PE X (.Call (.Attribute o name apos) [] [] cpos) (tD G E (eM0 .list (fun x S => g x [] S) fo)) :=
  PE.wk (pe_bm0 PySem.F.plainAttrs_list slot hty hm ho (base_plain hb _ _ _) hl) fun σ H Q ⟨μ, S, env, w, er, h⟩ => tD_go w er (post_bnd.1 h) fun x S1 v H1 μ1 l1 w1 er1 rx h1 => by
    split at h1
    · rename_i e
      exact ⟨by rw [hK]; exact tyV_list w1 rx e, ok x [] S1 v [] μ1 H1 H Q _ w1 rx .nil (h1.imp (fun _ _ z => z.up l1) fun _ _ z => z)⟩
    · exact h1.elim
theorem de_lm1 {g : Rv → List D → Sto → Res Rv} (hK : X.K = G.K) (slot : Slot "list" name id) (hty : typeOf (.builtin id) = pure (.type "method_descriptor")) (hm : MtR X id r) (ok : OkM G r g) (hb : baseOk o = true) (hl : (apos.endLine == cpos.line) = true) (hp : plainE a = true)
    (ho : PE X o (tD G E fo)) (ha : PE X a (tD G E fa)) : PE X (.Call (.Attribute o name apos) [a] [] cpos) (tD G E (eM1 .list (fun x d S => g x [d] S) fo fa)) :=
  PE.wk (pe_bm PySem.F.plainAttrs_list slot hty hm ho (pa_cons ha pa_nil (star_plain hp _ _)) (base_plain hb _ _ _) (few_ok (by simp [hp]) (by show 1 < 20; decide)) hl (star_plain hp _ _) rfl) fun σ H Q ⟨μ, S, env, w, er, h⟩ => tD_go w er (post_bnd.1 h) fun x S1 v H1 μ1 l1 w1 er1 rx h1 => by
    split at h1
    · rename_i e
      refine ⟨by rw [hK]; exact tyV_list w1 rx e, ?_⟩
      refine tD_go w1 er1 (post_ex l1 (post_bnd.1 h1) fun _ _ z => z) fun y S2 u H2 μ2 l2 w2 er2 ry h2 => ?_
      obtain ⟨d, S3, μ3, e3, l3, w3, r3, m3⟩ := stl_ok l2 w2 ry
      rw [e3] at h2
      have h2 : Post (g x [d] S3) (Gd G μ H Q) _ := h2
      have l := l1.trans l3
      exact ok x [d] S3 v [u] μ3 H2 H Q _ w3 (l3.rx w1 rx) (.one r3) (h2.imp (fun _ _ z => z.up l) fun _ _ z => z)
    · exact h1.elim
theorem de_lm2 {g : Rv → List D → Sto → Res Rv} (hK : X.K = G.K) (slot : Slot "list" name id) (hty : typeOf (.builtin id) = pure (.type "method_descriptor")) (hm : MtR X id r) (ok : OkM G r g) (hb : baseOk o = true) (hl : (apos.endLine == cpos.line) = true) (hp : plainE a = true) (hp2 : plainE b = true)
    (ho : PE X o (tD G E fo)) (ha : PE X a (tD G E fa)) (hb2 : PE X b (tD G E fb)) : PE X (.Call (.Attribute o name apos) [a, b] [] cpos) (tD G E (eM2 .list (fun x d e S => g x [d, e] S) fo fa fb)) :=
  PE.wk (pe_bm PySem.F.plainAttrs_list slot hty hm ho (pa_cons ha (pa_cons hb2 pa_nil (star_plain hp2 _ _)) (star_plain hp _ _)) (base_plain hb _ _ _) (few_ok (by simp [hp, hp2]) (by show 2 < 20; decide)) hl (star_plain hp _ _) (star_any cpos _ (es := [b]) (by simp [hp2]))) fun σ H Q ⟨μ, S, env, w, er, h⟩ => tD_go w er (post_bnd.1 h) fun x S1 v H1 μ1 l1 w1 er1 rx h1 => by
    split at h1
    · rename_i e
      refine ⟨by rw [hK]; exact tyV_list w1 rx e, ?_⟩
      refine tD_go w1 er1 (post_ex l1 (post_bnd.1 h1) fun _ _ z => z) fun y S2 u H2 μ2 l2 w2 er2 ry h2 => ?_
      obtain ⟨d, S3, μ3, e3, l3, w3, r3, m3⟩ := stl_ok l2 w2 ry
      rw [e3] at h2
      have h2 : Post (bnd (fb env S3) _) (Gd G μ H Q) _ := h2
      have er3 := l3.envR w1 er1
      refine tD_go w3 er3 (post_ex (l1.trans l3) (post_bnd.1 h2) fun _ _ z => z) fun y4 S4 u4 H4 μ4 l4 w4 er4 ry4 h4 => ?_
      obtain ⟨d5, S5, μ5, e5, l5, w5, r5, m5⟩ := stl_ok l4 w4 ry4
      rw [e5] at h4
      have h4 : Post (g x [d, d5] S5) (Gd G μ H Q) _ := h4
      exact ok x [d, d5] S5 v [u, u4] μ5 H4 H Q _ w5 ((l3.trans l5).rx w1 rx) (.cons (l5.r w3 r3) (.one r5)) (h4.imp (fun _ _ z => z.up ((l1.trans l3).trans l5)) fun _ _ z => z)
    · exact h1.elim
/-- the list at a place of the store is changed -/
def chg (x : Rv) (S : Sto) (k : List D → Nat → Res Rv) : Res Rv := match x with
  | .val (.loc n) => match S[n]? with
    | some (.lst xs) => k xs n
    | _ => .bad
  | _ => .bad
theorem chg_ok {x : Rv} {v : V} {k : List D → Nat → Res Rv} {P : Rv → Sto → Prop} {QE : Exn → Sto → Prop} (w : Wd G μ H S) (r : Rx G H0 μ H x v) (h : Post (chg x S k) P QE) :
    ∃ n a xs vs, x = .val (.loc n) ∧ S[n]? = some (.lst xs) ∧ μ n = some a ∧ v = .ref a ∧ H a = some (.lst vs) ∧ Rs G μ H xs vs ∧ Post (k xs n) P QE := by
  unfold chg at h
  split at h
  · rename_i n
    cases r with
    | @loc n a hn =>
      split at h
      · rename_i ys e
        obtain ⟨vs, ha, r⟩ := w.obj n a _ hn e
        exact ⟨n, a, ys, vs, rfl, e, hn, rfl, ha, r, h⟩
      · exact h.elim
  · exact h.elim
def mAppend (x : Rv) (ds : List D) (S : Sto) : Res Rv := match ds with
  | [d] => chg x S fun xs n => if xs.length < big then .ok (.val .non) (S.set n (.lst (xs ++ [d]))) else .bad
  | _ => .bad
theorem ok_append : OkM G rAppend mAppend := by
  intro x ds S v vs μ H H0 Q QE w rx rs q
  unfold mAppend at q
  split at q
  · rename_i d
    obtain ⟨n, a, xs, ws, rfl, e, hn, rfl, ha, r, q⟩ := chg_ok w rx q
    split at q
    · rename_i hz
      cases rs with
      | @cons _ y _ _ ry rt =>
        cases rt
        refine ⟨a, ws, y, rfl, rfl, ha, big_lt (by rw [← r.length]; exact hz), ?_⟩
        exact q _ _ μ (Le.write hn ha) (w.write hn ha (r.append (.one ry))) .non
    · exact q.elim
  · exact q.elim
def mInsert (x : Rv) (ds : List D) (S : Sto) : Res Rv := match ds with
  | [.int i, d] => chg x S fun xs n => if xs.length < big ∧ 0 ≤ i ∧ i < 2 ^ 60 then .ok (.val .non) (S.set n (.lst (xs.take i.toNat ++ [d] ++ xs.drop i.toNat))) else .bad
  | _ => .bad
theorem ok_insert : OkM G (fun x vs H Q => ∃ (l : Addr) (xs : List V) (i : Int) (y : V), x = .ref l ∧ vs = [.int i, y] ∧ H l = some (.lst xs) ∧ xs.length < sizeLine ∧ 0 ≤ i ∧ i < 2 ^ 63 ∧
    Q .non (upd H l (.lst (xs.take i.toNat ++ [y] ++ xs.drop i.toNat)))) mInsert := by
  intro x ds S v vs μ H H0 Q QE w rx rs q
  unfold mInsert at q
  split at q
  · rename_i i d
    obtain ⟨n, a, xs, ws, rfl, e, hn, rfl, ha, r, q⟩ := chg_ok w rx q
    split at q
    · rename_i hz
      cases rs with
      | @cons _ y0 _ _ ry0 rt0 =>
      cases ry0
      cases rt0 with
      | @cons _ y _ _ ry rt =>
        cases rt
        refine ⟨a, ws, i, y, rfl, rfl, ha, big_lt (by rw [← r.length]; exact hz.1), hz.2.1, by omega, ?_⟩
        exact q _ _ μ (Le.write hn ha) (w.write hn ha (((r.take _).append (.one ry)).append (r.drop _))) .non
    · exact q.elim
  · exact q.elim
def mPopAt (x : Rv) (ds : List D) (S : Sto) : Res Rv := match ds with
  | [.int i] => chg x S fun xs n => if -(2 ^ 60) ≤ i ∧ i < 2 ^ 60 then (match ixN xs.length i with
    | some k => (match xs[k]? with
      | some y => .ok (.val y) (S.set n (.lst (xs.eraseIdx k)))
      | none => .bad)
    | none => .bad) else .bad
  | _ => .bad
theorem ok_popAt : OkM G rPopAt mPopAt := by
  intro x ds S v vs μ H H0 Q QE w rx rs q
  unfold mPopAt at q
  split at q
  · rename_i i
    obtain ⟨n, a, xs, ws, rfl, e, hn, rfl, ha, r, q⟩ := chg_ok w rx q
    split at q
    · rename_i hz
      split at q
      · rename_i k ek
        split at q
        · rename_i d ed
          cases rs with
          | cons ry0 rt0 =>
          cases ry0; cases rt0
          obtain ⟨y, ey, ry⟩ := r.get ed
          obtain ⟨h1, h2, h3, h4⟩ := ixN_seq ek
          have lw : Le μ H μ (upd H a (.lst (ws.eraseIdx k))) := Le.write hn ha
          refine ⟨a, ws, i, k, y, rfl, rfl, ha, by omega, by omega, by rw [← r.length]; exact h1, ey, ?_⟩
          exact q _ _ μ lw (w.write hn ha (r.eraseIdx k)) (lw.r w ry)
        · exact q.elim
      · exact q.elim
    · exact q.elim
  · exact q.elim
end

/-! ### what is walked -/
abbrev Gs := List (Nat × List D)
/-- the lists that are walked stand as they stood -/
def gok (gs : Gs) (S : Sto) : Bool := gs.all fun g => decide (S[g.1]? = some (.lst g.2))
abbrev SrM := Env → Sto → Res (List D × Gs)
def Wk (G : Gm) (J : It) (xs : List D) (gs : Gs) (μ1 : Mp) (H1 : Hp) : Prop := ∀ (i : Nat) (μ2 : Mp) (H2 : Hp) (S2 : Sto), Le μ1 H1 μ2 H2 → Wd G μ2 H2 S2 → gok gs S2 = true →
  (xs.length ≤ i → J.stop i H2) ∧ ∀ d, xs[i]? = some d → J.go i H2 ∧ ∀ x H3, J.yld i H2 x H3 → Le μ2 H2 μ2 H3 ∧ Wd G μ2 H3 S2 ∧ R G μ2 H3 d x
def tSr (G : Gm) (E : XK) (f : SrM) : TI := fun σ H Rr => ∃ μ S env, Wd G μ H S ∧ EnvR G μ H env σ ∧ Post (f env S) (fun s S' => ∀ J H' μ', Le μ H μ' H' → Wd G μ' H' S' → Wk G J s.1 s.2 μ' H' → Rr J H') (ExP G E μ H)
theorem PI.wk {X : Cx} {tg e : Expr} {t t' : TI} (h : PI X tg e t) (k : ∀ σ H Q, t' σ H Q → t σ H Q) : PI X tg e t' := ⟨fun pins s σ H Q I q => h.run pins s σ H Q I (k σ H Q q)⟩
theorem PI.or {X : Cx} {tg e : Expr} {t t' : TI} (h : PI X tg e t) (h' : PI X tg e t') : PI X tg e (fun σ H Q => t σ H Q ∨ t' σ H Q) := ⟨fun pins s σ H Q I q => by
  rcases q with q | q
  · exact h.run pins s σ H Q I q
  · exact h'.run pins s σ H Q I q⟩
/-- a value that is walked: its items, what must stand meanwhile -/
def srcOf (x : Rv) (S : Sto) : Option (List D × Gs) := match x with
  | .new xs => some (xs, [])
  | .val (.rol xs) => some (xs, [])
  | .val (.loc n) => match S[n]? with
    | some (.lst xs) => some (xs, [(n, xs)])
    | _ => none
  | .val (.tup xs) => some (xs, [])
  | _ => none
def srV (f : ExM) : SrM := fun env S => bnd (f env S) fun x S1 => match srcOf x S1 with
  | some s => .ok s S1
  | none => .bad
section
variable {G : Gm} {E : XK} {μ : Mp} {H H0 : Hp} {S : Sto} {X : Cx}
/-- how a list or a tuple reads through what follows -/
theorem src_ok {x : Rv} {v : V} {xs : List D} {gs : Gs} (w : Wd G μ H S) (r : Rx G H0 μ H x v) (h : srcOf x S = some (xs, gs)) (nt : ¬ ∃ ys, x = .val (.tup ys)) :
    ∃ a, v = .ref a ∧ (∃ vs, SqL G.K H a vs) ∧ ∀ μ2 H2 S2, Le μ H μ2 H2 → Wd G μ2 H2 S2 → gok gs S2 = true → ∃ vs, SqL G.K H2 a vs ∧ Rs G μ2 H2 xs vs := by
  unfold srcOf at h
  split at h
  · cases h
    obtain ⟨a, vs, e, ha, hn, _, rs⟩ := r
    exact ⟨a, e, ⟨vs, .of ha⟩, fun μ2 H2 S2 l w2 _ => ⟨vs, .of (l.kept _ _ ha hn), l.rs w rs⟩⟩
  · cases h
    cases r with
    | @rol _ a vs hs rs => exact ⟨a, rfl, ⟨vs, hs.l⟩, fun μ2 H2 S2 l w2 _ => ⟨vs, (l.sqF hs).l, l.rs w rs⟩⟩
  · rename_i n
    cases r with
    | @loc n a hn =>
      split at h
      · rename_i ys e
        cases h
        obtain ⟨vs, ha, rs⟩ := w.obj n a _ hn e
        refine ⟨a, rfl, ⟨vs, .of ha⟩, fun μ2 H2 S2 l w2 g => ?_⟩
        have e2 : S2[n]? = some (.lst xs) := by
          have := List.all_eq_true.mp g (n, xs) (List.mem_singleton.mpr rfl)
          exact of_decide_eq_true this
        obtain ⟨ws, hb, rs2⟩ := w2.obj n a _ (l.mono _ _ hn) e2
        exact ⟨ws, .of hb, rs2⟩
      · cases h
  · exact absurd ⟨_, rfl⟩ nt
  · cases h
theorem Wk.list {a : Addr} {xs : List D} {gs : Gs} (k : ∀ μ2 H2 S2, Le μ H μ2 H2 → Wd G μ2 H2 S2 → gok gs S2 = true → ∃ vs, SqL G.K H2 a vs ∧ Rs G μ2 H2 xs vs) : Wk G (Itl G.K a) xs gs μ H := fun i μ2 H2 S2 l w2 g => by
  obtain ⟨vs, hs, rs⟩ := k μ2 H2 S2 l w2 g
  refine ⟨fun hi => ⟨vs, hs, by rw [← rs.length]; exact hi⟩, fun d hd => ?_⟩
  obtain ⟨v, hv, rv⟩ := rs.get hd
  refine ⟨⟨vs, v, hs, hv⟩, fun x H3 y => ?_⟩
  obtain ⟨rfl, y⟩ := y
  have e : v = x := Option.some.inj (hv.symm.trans (y vs hs))
  subst e
  exact ⟨Le.refl, w2, rv⟩
theorem Wk.tup {a : Addr} {xs : List D} {vs : List V} {gs : Gs} (w : Wd G μ H S) (hs : SqT G.K H a vs) (rs : Rs G μ H xs vs) : Wk G (Itt G.K a) xs gs μ H := fun i μ2 H2 S2 l w2 g => by
  have hs := l.sqT w hs
  have rs := l.rs w rs
  refine ⟨fun hi => ⟨vs, hs, by rw [← rs.length]; exact hi⟩, fun d hd => ?_⟩
  obtain ⟨v, hv, rv⟩ := rs.get hd
  refine ⟨⟨vs, v, hs, hv⟩, fun x H3 y => ?_⟩
  obtain ⟨rfl, y⟩ := y
  have e : v = x := Option.some.inj (hv.symm.trans (y vs hs))
  subst e
  exact ⟨Le.refl, w2, rv⟩
theorem Wk.up {J : It} {xs : List D} {gs : Gs} {μ1 : Mp} {H1 : Hp} (l : Le μ H μ1 H1) (k : Wk G J xs gs μ H) : Wk G J xs gs μ1 H1 := fun i μ2 H2 S2 l2 w2 g => k i μ2 H2 S2 (l.trans l2) w2 g
variable {tg e a b : Expr} {fa fb : ExM}
theorem di_seq (hK : X.K = G.K) (ha : PE X e (tD G E fa)) : PI X tg e (tSr G E (srV fa)) :=
  PI.wk (PI.or (pi_list ha) (pi_tup ha)) fun σ H Rr ⟨μ, S, env, w, er, h⟩ => by
    unfold srV at h
    have h := post_bnd.1 h
    have hx : (∃ x S1, fa env S = .ok x S1 ∧ ∃ xs gs, srcOf x S1 = some (xs, gs)) ∨ ∃ e S1, fa env S = .exc e S1 := by
      cases q : fa env S with
      | ok x S1 =>
        rw [q] at h
        have h : Post (match srcOf x S1 with
          | some s => Res.ok s S1
          | none => .bad) _ _ := h
        split at h
        · rename_i s es
          exact .inl ⟨x, S1, rfl, s.1, s.2, es⟩
        · exact h.elim
      | exc e S1 => exact .inr ⟨e, S1, rfl⟩
      | bad => rw [q] at h; exact h.elim
    rcases hx with ⟨x, S1, q, xs, gs, es⟩ | ⟨e, S1, q⟩
    · rw [q] at h
      have h : Post (match srcOf x S1 with
          | some s => Res.ok s S1
          | none => .bad) _ _ := h
      rw [es] at h
      have key : ∀ {P Q : V → Hp → Prop}, (∀ v H1 μ1, Le μ H μ1 H1 → Wd G μ1 H1 S1 → Rx G H μ1 H1 x v → P v H1) → tD G E fa σ H P := fun {P Q} k => ⟨μ, S, env, w, er, by rw [q]; exact fun v H1 μ1 l1 w1 r => k v H1 μ1 l1 w1 r⟩
      by_cases ht : ∃ ys, x = .val (.tup ys)
      · obtain ⟨ys, rfl⟩ := ht
        cases es
        refine .inr (key (Q := fun _ _ => True) fun v H1 μ1 l1 w1 r => ?_)
        cases r with
        | @tup _ a vs hs rs =>
          rw [hK]
          exact ⟨a, rfl, ⟨vs, hs⟩, h _ H1 μ1 l1 w1 (Wk.tup w1 hs rs)⟩
      · refine .inl (key (Q := fun _ _ => True) fun v H1 μ1 l1 w1 r => ?_)
        obtain ⟨a, e3, k1, k2⟩ := src_ok w1 r es ht
        rw [hK]
        exact ⟨a, e3, k1, h _ H1 μ1 l1 w1 (Wk.list k2)⟩
    · refine .inl ⟨μ, S, env, w, er, by rw [q] at h ⊢; exact h⟩
end
end Bz

set_option Elab.async false
set_option linter.all false
set_option maxRecDepth 100000
set_option maxHeartbeats 2000000
/-! Bz, sixth part: range, zip, texts walked; targets; comprehensions. -/
namespace Bz
open PySem PySem.Spec PyProof.Rows L2 RZ
section
variable {G : Gm} {E : XK} {μ : Mp} {H H0 : Hp} {S : Sto} {X : Cx} {tg e a b : Expr} {fa fb : ExM} {p pos : Pos}
def rngI (lo : Int) (n : Nat) : List D := (List.range n).map fun (i : Nat) => D.int (lo + (i : Int))
def srR1 (fa : ExM) : SrM := fun env S => bnd (fa env S) fun x S1 => match x with
  | .val (.int j) => if -(2 ^ 60) ≤ j ∧ j < 2 ^ 60 then .ok (rngI 0 j.toNat, []) S1 else .bad
  | _ => .bad
def srR2 (fa fb : ExM) : SrM := fun env S => bnd (fa env S) fun x S1 => bnd (fb env S1) fun y S2 => match x, y with
  | .val (.int i), .val (.int j) => if (-(2 ^ 60) ≤ i ∧ i < 2 ^ 60) ∧ -(2 ^ 60) ≤ j ∧ j < 2 ^ 60 then .ok (rngI i (j - i).toNat, []) S2 else .bad
  | _, _ => .bad
theorem rngI_get {lo : Int} {n i : Nat} {d : D} (h : (rngI lo n)[i]? = some d) : i < n ∧ d = .int (lo + (i : Int)) := by
  unfold rngI at h
  rw [List.getElem?_map] at h
  obtain ⟨k, h1, h2⟩ := Option.map_eq_some_iff.mp h
  obtain ⟨h3, h4⟩ := List.getElem?_eq_some_iff.mp h1
  rw [List.getElem_range] at h4
  subst h4
  exact ⟨by simpa using h3, h2.symm⟩
theorem Wk.range {lo : Int} {n : Nat} {gs : Gs} : Wk G (Itr lo n) (rngI lo n) gs μ H := fun i μ2 H2 S2 l w2 g => by
  refine ⟨fun hi => show n ≤ i by simpa [rngI] using hi, fun d hd => ?_⟩
  obtain ⟨h1, h2⟩ := rngI_get hd
  subst h2
  refine ⟨h1, fun x H3 y => ?_⟩
  obtain ⟨rfl, rfl⟩ := y
  exact ⟨Le.refl, w2, .int _⟩
theorem di_range1 (hg : Gl X "range") (hm : X.mg "range" = none) (hp : plainE a = true) (ha : PE X a (tD G E fa)) : PI X tg (.Call (.Name "range" p) [a] [] pos) (tSr G E (srR1 fa)) :=
  PI.wk (pi_range1 hg hm (pa_cons ha pa_nil (star_plain hp _ _)) (star_plain hp _ _)) fun σ H Rr ⟨μ, S, env, w, er, h⟩ => tD_go w er (post_bnd.1 h) fun x S1 v H1 μ1 l1 w1 er1 rx h1 => by
    split at h1
    · split at h1
      · rename_i j hj
        cases rx
        exact ⟨j, rfl, by omega, by omega, h1 _ H1 μ1 l1 w1 Wk.range⟩
      · exact h1.elim
    · exact h1.elim
theorem di_range2 (hg : Gl X "range") (hm : X.mg "range" = none) (hp : plainE a = true) (hp2 : plainE b = true) (ha : PE X a (tD G E fa)) (hb : PE X b (tD G E fb)) : PI X tg (.Call (.Name "range" p) [a, b] [] pos) (tSr G E (srR2 fa fb)) :=
  PI.wk (pi_range2 hg hm (pa_cons ha (pa_cons hb pa_nil (star_plain hp2 _ _)) (star_plain hp _ _)) (by rw [star_plain hp, star_plain hp2]; rfl) (star_plain hp2 _ _)) fun σ H Rr ⟨μ, S, env, w, er, h⟩ => by
    refine tD_go w er (post_bnd.1 h) fun x S1 v H1 μ1 l1 w1 er1 rx h1 => ?_
    refine tD_go w1 er1 (post_ex l1 (post_bnd.1 h1) fun _ _ z => z) fun y S2 u H2 μ2 l2 w2 er2 ry h2 => ?_
    split at h2
    · split at h2
      · rename_i i j hj
        cases rx; cases ry
        exact ⟨i, j, rfl, by omega, h2 _ H2 μ2 (l1.trans l2) w2 Wk.range⟩
      · exact h2.elim
    · exact h2.elim
/-! ### zip -/
def zipD (xs ys : List D) : List D := (xs.zip ys).map fun p => D.tup [p.1, p.2]
theorem zipD_get {xs ys : List D} {i : Nat} {d : D} (h : (zipD xs ys)[i]? = some d) : ∃ x y, xs[i]? = some x ∧ ys[i]? = some y ∧ d = .tup [x, y] := by
  unfold zipD at h
  rw [List.getElem?_map] at h
  obtain ⟨k, h1, h2⟩ := Option.map_eq_some_iff.mp h
  obtain ⟨h3, h4⟩ := List.getElem?_zip_eq_some.mp h1
  exact ⟨k.1, k.2, h3, h4, h2.symm⟩
def isTup : Rv → Bool
  | .val (.tup _) => true
  | _ => false
def srZ (fa fb : ExM) : SrM := fun env S => bnd (fa env S) fun x S1 => bnd (fb env S1) fun y S2 => match srcOf x S2, srcOf y S2 with
  | some s, some t => if isTup x = isTup y then .ok (zipD s.1 t.1, s.2 ++ t.2) S2 else .bad
  | _, _ => .bad
theorem gok_append {gs hs : Gs} (h : gok (gs ++ hs) S = true) : gok gs S = true ∧ gok hs S = true := by
  unfold gok at h ⊢
  rw [List.all_append, Bool.and_eq_true] at h
  exact h
theorem Wk.zip {a b : Addr} {xs ys : List D} {gs hs : Gs} (k : ∀ μ2 H2 S2, Le μ H μ2 H2 → Wd G μ2 H2 S2 → gok gs S2 = true → ∃ vs, SqL G.K H2 a vs ∧ Rs G μ2 H2 xs vs) (k' : ∀ μ2 H2 S2, Le μ H μ2 H2 → Wd G μ2 H2 S2 → gok hs S2 = true → ∃ vs, SqL G.K H2 b vs ∧ Rs G μ2 H2 ys vs) :
    Wk G (Itz G.K a b) (zipD xs ys) (gs ++ hs) μ H := fun i μ2 H2 S2 l w2 g => by
  obtain ⟨g1, g2⟩ := gok_append g
  obtain ⟨vs, hv, rv⟩ := k μ2 H2 S2 l w2 g1
  obtain ⟨ws, hw, rw'⟩ := k' μ2 H2 S2 l w2 g2
  refine ⟨fun hi => ⟨vs, ws, hv, hw, ?_⟩, fun d hd => ?_⟩
  · have : (zipD xs ys).length = min xs.length ys.length := by simp [zipD]
    rw [this, rv.length, rw'.length] at hi
    omega
  · obtain ⟨x, y, hx, hy, rfl⟩ := zipD_get hd
    obtain ⟨v, ev, r1⟩ := rv.get hx
    obtain ⟨u, eu, r2⟩ := rw'.get hy
    refine ⟨⟨vs, ws, v, u, hv, hw, ev, eu⟩, fun z H3 q => ?_⟩
    obtain ⟨T, x', y', rfl, hT, rfl, q1, q2⟩ := q
    have e1 : v = x' := Option.some.inj (ev.symm.trans (q1 vs hv))
    have e2 : u = y' := Option.some.inj (eu.symm.trans (q2 ws hw))
    subst e1 e2
    exact ⟨Le.laid hT, w2.laid hT, R.fresh w2 hT (.cons r1 (.one r2))⟩
theorem Wk.zipT {a b : Addr} {xs ys : List D} {vs ws : List V} {gs : Gs} (w : Wd G μ H S) (hv : SqT G.K H a vs) (rv : Rs G μ H xs vs) (hw : SqT G.K H b ws) (rw' : Rs G μ H ys ws) : Wk G (ItzT G.K a b) (zipD xs ys) gs μ H := fun i μ2 H2 S2 l w2 g => by
  have hv := l.sqT w hv
  have rv := l.rs w rv
  have hw := l.sqT w hw
  have rw' := l.rs w rw'
  refine ⟨fun hi => ⟨vs, ws, hv, hw, ?_⟩, fun d hd => ?_⟩
  · have : (zipD xs ys).length = min xs.length ys.length := by simp [zipD]
    rw [this, rv.length, rw'.length] at hi
    omega
  · obtain ⟨x, y, hx, hy, rfl⟩ := zipD_get hd
    obtain ⟨v, ev, r1⟩ := rv.get hx
    obtain ⟨u, eu, r2⟩ := rw'.get hy
    refine ⟨⟨vs, ws, v, u, hv, hw, ev, eu⟩, fun z H3 q => ?_⟩
    obtain ⟨T, x', y', rfl, hT, rfl, q1, q2⟩ := q
    have e1 : v = x' := Option.some.inj (ev.symm.trans (q1 vs hv))
    have e2 : u = y' := Option.some.inj (eu.symm.trans (q2 ws hw))
    subst e1 e2
    exact ⟨Le.laid hT, w2.laid hT, R.fresh w2 hT (.cons r1 (.one r2))⟩
theorem isTup_iff {x : Rv} : isTup x = true ↔ ∃ ys, x = .val (.tup ys) := by
  unfold isTup
  split
  · exact ⟨fun _ => ⟨_, rfl⟩, fun _ => rfl⟩
  · rename_i n
    exact ⟨fun h => (nomatch h), fun ⟨ys, h⟩ => (n ys h).elim⟩
theorem src_tup {x : Rv} {v : V} {xs : List D} {gs : Gs} (r : Rx G H0 μ H x v) (h : srcOf x S = some (xs, gs)) (ht : isTup x = true) : ∃ a vs, v = .ref a ∧ SqT G.K H a vs ∧ Rs G μ H xs vs := by
  obtain ⟨ys, rfl⟩ := isTup_iff.mp ht
  cases h
  cases r with
  | @tup _ a vs hs rs => exact ⟨a, vs, rfl, hs, rs⟩
theorem di_zip {elts : List Expr} {kk : Nat} {tpos : Pos} (hK : X.K = G.K) (hg : Gl X "zip") (hm : X.mg "zip" = none) (hp : plainE a = true) (hp2 : plainE b = true) (ha : PE X a (tD G E fa)) (hb : PE X b (tD G E fb)) :
    PI X (.Tuple elts kk tpos) (.Call (.Name "zip" p) [a, b] [] pos) (tSr G E (srZ fa fb)) :=
  PI.wk (pi_zipA hg hm (pa_cons ha (pa_cons hb pa_nil (star_plain hp2 _ _)) (star_plain hp _ _)) (star_plain hp _ _) (star_any pos _ (es := [b]) (by simp [hp2]))) fun σ H Rr ⟨μ, S, env, w, er, h⟩ => by
    refine tD_go w er (post_bnd.1 h) fun x S1 v H1 μ1 l1 w1 er1 rx h1 => ?_
    refine tD_go w1 er1 (post_ex l1 (post_bnd.1 h1) fun _ _ z => z) fun y S2 u H2 μ2 l2 w2 er2 ry h2 => ?_
    split at h2
    · rename_i s t es et
      split at h2
      · rename_i hi
        have rx := l2.rx w1 rx
        have l := l1.trans l2
        rw [hK]
        by_cases hx : isTup x = true
        · obtain ⟨a', vs, e1, hs, rs⟩ := src_tup rx es hx
          obtain ⟨b', ws, e2, ht, rt⟩ := src_tup ry et (hi ▸ hx)
          subst e1 e2
          exact ⟨a', b', vs, ws, rfl, .inr ⟨hs, ht, h2 _ H2 μ2 l w2 (Wk.zipT w2 hs rs ht rt)⟩⟩
        · obtain ⟨a', e1, ⟨vs, hs⟩, k⟩ := src_ok w2 rx es fun z => hx (isTup_iff.mpr z)
          obtain ⟨b', e2, ⟨ws, ht⟩, k'⟩ := src_ok w2 ry et fun z => hx (hi ▸ isTup_iff.mpr z)
          subst e1 e2
          exact ⟨a', b', vs, ws, rfl, .inl ⟨hs, ht, h2 _ H2 μ2 l w2 (Wk.zip k k')⟩⟩
      · exact h2.elim
    · exact h2.elim
/-! ### a text, sign by sign -/
def signs (x : Str) : List D := x.cps.toList.map fun c => D.str ⟨#[c]⟩
def srS (fa : ExM) : SrM := fun env S => bnd (fa env S) fun x S1 => match x with
  | .val (.str z) => .ok (signs z, []) S1
  | _ => .bad
theorem Wk.str {z : Str} {gs : Gs} : Wk G (Its z) (signs z) gs μ H := fun i μ2 H2 S2 l w2 g => by
  refine ⟨fun hi => show z.cps.size ≤ i by simpa [signs] using hi, fun d hd => ?_⟩
  unfold signs at hd
  rw [List.getElem?_map] at hd
  obtain ⟨c, h1, h2⟩ := Option.map_eq_some_iff.mp hd
  subst h2
  have h1 : z.cps[i]? = some c := by rw [← Array.getElem?_toList]; exact h1
  refine ⟨(Array.getElem?_eq_some_iff.mp h1).1, fun x H3 y => ?_⟩
  obtain ⟨rfl, c', h3, rfl⟩ := y
  rw [h1] at h3
  cases h3
  exact ⟨Le.refl, w2, .str _⟩
theorem di_str (ha : PE X e (tD G E fa)) : PI X tg e (tSr G E (srS fa)) :=
  PI.wk (pi_str ha) fun σ H Rr ⟨μ, S, env, w, er, h⟩ => tD_go w er (post_bnd.1 h) fun x S1 v H1 μ1 l1 w1 er1 rx h1 => by
    split at h1
    · rename_i z
      cases rx
      exact ⟨z, rfl, h1 _ H1 μ1 l1 w1 Wk.str⟩
    · exact h1.elim
/-- any value that is walked -/
def srA (fa : ExM) : SrM := fun env S => bnd (fa env S) fun x S1 => match x with
  | .val (.str z) => .ok (signs z, []) S1
  | x => match srcOf x S1 with
    | some s => .ok s S1
    | none => .bad
theorem di_any (hK : X.K = G.K) (ha : PE X e (tD G E fa)) : PI X tg e (tSr G E (srA fa)) :=
  PI.wk (PI.or (di_str ha) (di_seq hK ha)) fun σ H Rr ⟨μ, S, env, w, er, h⟩ => by
    unfold srA at h
    cases q : fa env S with
    | ok x S1 =>
      rw [q] at h
      by_cases hx : ∃ z, x = .val (.str z)
      · obtain ⟨z, rfl⟩ := hx
        exact .inl ⟨μ, S, env, w, er, by unfold srS; rw [q]; exact h⟩
      · refine .inr ⟨μ, S, env, w, er, ?_⟩
        unfold srV
        rw [q]
        have h : Post (match x with
          | .val (.str z) => Res.ok (signs z, []) S1
          | x => match srcOf x S1 with
            | some s => .ok s S1
            | none => .bad) _ _ := h
        split at h
        · exact absurd ⟨_, rfl⟩ hx
        · exact h
    | exc e S1 => exact .inl ⟨μ, S, env, w, er, by unfold srS; rw [q] at h ⊢; exact h⟩
    | bad => rw [q] at h; exact h.elim
end

/-! ### targets -/
abbrev TgM := D → Env → Sto → Res Env
abbrev TgsM := List D → Env → Sto → Res Env
def offT (ts : List Nat) (σ σ' : L2.St) : Prop := σ'.length = σ.length ∧ ∀ i, i ∉ ts → σ'[i]? = σ[i]?
def tTg (G : Gm) (E : XK) (ts : List Nat) (f : TgM) : TG := fun v σ H Q => ∃ μ S env d, Wd G μ H S ∧ EnvR G μ H env σ ∧ R G μ H d v ∧ Post (f d env S) (fun env' S' => ∀ σ' H' μ', Le μ H μ' H' → Wd G μ' H' S' → EnvR G μ' H' env' σ' → offT ts σ σ' → Q σ' H') (ExP G E μ H)
def tTgs (G : Gm) (E : XK) (ts : List Nat) (f : TgsM) : TGs := fun vs σ H Q => ∃ μ S env ds, Wd G μ H S ∧ EnvR G μ H env σ ∧ Rs G μ H ds vs ∧ Post (f ds env S) (fun env' S' => ∀ σ' H' μ', Le μ H μ' H' → Wd G μ' H' S' → EnvR G μ' H' env' σ' → offT ts σ σ' → Q σ' H') (ExP G E μ H)
section
variable {G : Gm} {E : XK} {μ : Mp} {H H0 : Hp} {S : Sto} {X : Cx}
theorem PG.wk {e : Expr} {t t' : TG} (h : PG X e t) (k : ∀ v σ H Q, t' v σ H Q → t v σ H Q) : PG X e t' := ⟨fun pins s σ H v u Q I r q => h.run pins s σ H v u Q I r (k v σ H Q q)⟩
theorem PGs.wk {e : List Expr} {t t' : TGs} (h : PGs X e t) (k : ∀ v σ H Q, t' v σ H Q → t v σ H Q) : PGs X e t' := ⟨fun pins s σ H v u Q I r q => h.run pins s σ H v u Q I r (k v σ H Q q)⟩
def gNm (i : Nat) : TgM := fun d env S => if i < env.length then .ok (env.set i (some d)) S else .bad
theorem EnvR.set {env : Env} {σ : L2.St} {i : Nat} {d : D} {v : V} (er : EnvR G μ H env σ) (r : R G μ H d v) : EnvR G μ H (env.set i (some d)) (σ.set i (some v)) := by
  refine ⟨by simp [er.1], fun j d' e => ?_⟩
  by_cases hj : i = j
  · subst hj
    by_cases hi : i < env.length
    · rw [List.getElem?_set_self hi] at e
      cases e
      exact ⟨v, by rw [List.getElem?_set_self (by rw [← er.1]; exact hi)], r⟩
    · rw [List.getElem?_eq_none (by simpa using hi)] at e; cases e
  · rw [List.getElem?_set_ne hj] at e
    obtain ⟨v', e', r'⟩ := er.2 j d' e
    exact ⟨v', by rw [List.getElem?_set_ne hj]; exact e', r'⟩
theorem offT.set {σ : L2.St} {i : Nat} {v : Option V} {ts : List Nat} (h : i ∈ ts) : offT ts σ (σ.set i v) := ⟨by simp, fun j hj => List.getElem?_set_ne fun z => hj (by rw [← z]; exact h)⟩
theorem offT.trans {σ σ1 σ2 : L2.St} {ts us : List Nat} (h : offT ts σ σ1) (h' : offT us σ1 σ2) : offT (ts ++ us) σ σ2 := ⟨h'.1.trans h.1, fun j hj => (h'.2 j fun z => hj (List.mem_append_right _ z)).trans (h.2 j fun z => hj (List.mem_append_left _ z))⟩
theorem dg_name {i : Nat} {x : Str} {pos : Pos} (h : PG X (.Name x pos) (gName i)) : PG X (.Name x pos) (tTg G E [i] (gNm i)) := PG.wk h fun v σ H Q ⟨μ, S, env, d, w, er, r, h⟩ => by
  unfold gNm at h
  split at h
  · exact h _ H μ Le.refl w (er.set r) (offT.set (by simp))
  · exact h.elim
def gsNil : TgsM := fun ds env S => if ds = [] then .ok env S else .bad
def gsCons (f : TgM) (g : TgsM) : TgsM := fun ds env S => match ds with
  | d :: r => bnd (f d env S) fun env1 S1 => g r env1 S1
  | [] => .bad
theorem dgs_nil : PGs X [] (tTgs G E [] gsNil) := PGs.wk pgs_nil fun vs σ H Q ⟨μ, S, env, ds, w, er, r, h⟩ => by
  unfold gsNil at h
  split at h
  · rename_i e
    subst e
    cases r
    exact ⟨rfl, h σ H μ Le.refl w er ⟨rfl, fun _ _ => rfl⟩⟩
  · exact h.elim
theorem dgs_cons {e : Expr} {es : List Expr} {f : TgM} {g : TgsM} {ts us : List Nat} (hs : (assignEach (e :: es) X.env).map (·.2) = assign e X.env :: (assignEach es X.env).map (·.2)) (h1 : PG X e (tTg G E ts f)) (h2 : PGs X es (tTgs G E us g)) : PGs X (e :: es) (tTgs G E (ts ++ us) (gsCons f g)) :=
  PGs.wk (pgs_cons h1 h2 hs) fun vs σ H Q ⟨μ, S, env, ds, w, er, r, h⟩ => by
    unfold gsCons at h
    split at h
    · rename_i d ds
      cases r with
      | @cons _ v _ vr r rr =>
        refine ⟨v, vr, rfl, μ, S, env, d, w, er, r, (post_bnd.1 h).imp (fun env1 S1 h1 σ1 H1 μ1 l1 w1 er1 o1 => ⟨μ1, S1, env1, ds, w1, er1, l1.rs w rr, post_ex l1 h1 fun env2 S2 h2 σ2 H2 μ2 l2 w2 er2 o2 => h2 σ2 H2 μ2 (l1.trans l2) w2 er2 (o1.trans o2)⟩) fun _ _ z => z⟩
    · exact h.elim
def gTp (n : Nat) (g : TgsM) : TgM := fun d env S => match d with
  | .tup ds => if ds.length = n then g ds env S else .bad
  | _ => .bad
theorem dg_tup {es : List Expr} {k n : Nat} {pos : Pos} {g : TgsM} {ts : List Nat} (hK : X.K = G.K) (hc : X.calm = true) (hn : (assignEach es X.env).length = n) (hst : (assignEach es X.env).findIdx? (·.1) = none) (h : PGs X es (tTgs G E ts g)) :
    PG X (.Tuple es k pos) (tTg G E ts (gTp n g)) := PG.wk (pg_tup hc h hn hst) fun v σ H Q ⟨μ, S, env, d, w, er, r, h⟩ => by
  unfold gTp at h
  split at h
  · split at h
    · rename_i ds hl
      cases r with
      | @tup _ a vs hs rs => exact ⟨a, vs, rfl, by rw [hK]; exact hs, by rw [← rs.length]; exact hl, μ, S, env, ds, w, er, rs, h⟩
    · exact h.elim
  · exact h.elim
end
end Bz

set_option Elab.async false
set_option linter.all false
set_option maxRecDepth 100000
set_option maxHeartbeats 2000000
/-! Bz, seventh part: comprehensions of lists. -/
namespace Bz
open PySem PySem.Spec PyProof.Rows L2

/-- no exception comes out of a comprehension -/
def noex {α : Type} (r : Res α) : Res α := match r with
  | .exc _ _ => .bad
  | r => r
theorem post_noex {α : Type} {r : Res α} {P : α → Sto → Prop} {Q Q' : Exn → Sto → Prop} (h : Post (noex r) P Q) : Post r P Q' := by
  cases r with
  | ok a S => exact h
  | exc e S => exact h.elim
  | bad => exact h
/-- nothing is wanted of an exception: none leaves -/
abbrev X0 : XK := fun _ _ _ => False
section
variable {G : Gm} {E : XK} {μ μ' : Mp} {H H' H0 : Hp} {S S' : Sto} {X : Cx}
theorem Le.out {p : Addr} {o : HO} (l : Le μ H μ' H') (h : H p = none) : Le μ H μ' (upd H' p o) where
  mono := l.mono
  new := l.new
  kept := fun a u e q => by rw [upd_ne (ne_of_none e h)]; exact l.kept a u e q
  frz := fun a u x e => by rw [upd_ne (ne_of_none e h)]; exact l.frz a u x e
  trk := fun a u e => by rw [upd_ne (ne_of_none e h)]; exact l.trk a u e
theorem sqT_out {p a : Addr} {o : HO} {acc xs : List V} (h : H p = some (.lst acc)) (q : SqT G.K H a xs) : SqT G.K (upd H p o) a xs := by
  rcases q with (q | ⟨o', q⟩) | q
  · exact .inl (.inl (by rw [upd_ne (ne_of q h (by intro z; cases z))]; exact q))
  · exact .inl (.inr ⟨o', by rw [upd_ne (ne_of q h (by intro z; cases z))]; exact q⟩)
  · exact .inr q
theorem sqF_out {p a : Addr} {o : HO} {acc xs : List V} (h : H p = some (.lst acc)) (q : SqF G.K H a xs) : SqF G.K (upd H p o) a xs := by
  rcases q with ⟨o', q⟩ | q
  · exact .inl ⟨o', by rw [upd_ne (ne_of q h (by intro z; cases z))]; exact q⟩
  · exact .inr q
theorem Rs.out {p : Addr} {o : HO} {acc : List V} {ds : List D} {vs : List V} (h : H p = some (.lst acc)) (r : Rs G μ H ds vs) : Rs G μ (upd H p o) ds vs := r.mono (fun _ _ h => h) (fun _ _ q => sqT_out h q) fun _ _ q => sqF_out h q
theorem Wd.out {p : Addr} {o : HO} {acc : List V} (w : Wd G μ H S) (h : H p = some (.lst acc)) (hn : ∀ n, μ n ≠ some p) : Wd G μ (upd H p o) S where
  dom := w.dom
  lt := w.lt
  inj := w.inj
  obj := fun n a ob e1 e2 => by
    have ne : a ≠ p := fun z => by subst z; exact hn n e1
    have q := w.obj n a ob e1 e2
    cases ob with
    | lst ys => obtain ⟨vs, q, r⟩ := q; exact ⟨vs, by rw [upd_ne ne]; exact q, r.out h⟩
def wipeE (env : Env) : List Nat → Env
  | [] => env
  | v :: vs => (wipeE env vs).set v none
theorem wipeE_len (env : Env) : ∀ vs : List Nat, (wipeE env vs).length = env.length
  | [] => rfl
  | v :: vs => by unfold wipeE; rw [List.length_set, wipeE_len env vs]
theorem wipe_get {σ : L2.St} {j : Nat} : ∀ {vs : List Nat}, (wipe σ vs)[j]? = if j ∈ vs then (if j < σ.length then some none else none) else σ[j]?
  | [] => by simp [wipe]
  | v :: vs => by
    unfold wipe
    by_cases e : v = j
    · subst e
      rw [if_pos (by simp)]
      by_cases hv : v < σ.length
      · rw [if_pos hv, List.getElem?_set_self (by rw [wipe_length]; exact hv)]
      · rw [if_neg hv, List.getElem?_eq_none (by rw [List.length_set, wipe_length]; omega)]
    · rw [List.getElem?_set_ne e, wipe_get (vs := vs)]
      have e' : j ≠ v := fun z => e z.symm
      simp [e']
theorem wipe_off {σ σ' : L2.St} {ts vs : List Nat} (o : offT ts (wipe σ vs) σ') (h : ∀ i ∈ ts, i ∈ vs) : wipe σ' vs = wipe σ vs := by
  refine List.ext_getElem? fun j => ?_
  have hl : σ'.length = σ.length := o.1.trans (wipe_length σ vs)
  rw [wipe_get, wipe_get, hl]
  by_cases hj : j ∈ vs
  · rw [if_pos hj, if_pos hj]
  · rw [if_neg hj, if_neg hj, o.2 j fun z => hj (h j z), wipe_get, if_neg hj]
theorem EnvR.wipe {env : Env} {σ : L2.St} (er : EnvR G μ H env σ) : ∀ vs : List Nat, EnvR G μ H (wipeE env vs) (wipe σ vs)
  | [] => er
  | v :: vs => by
    have ih := EnvR.wipe er vs
    refine ⟨by rw [wipeE_len, wipe_length]; exact er.1, fun i d e => ?_⟩
    unfold wipeE at e
    unfold L2.wipe
    by_cases hv : v = i
    · subst hv
      by_cases hi : v < (wipeE env vs).length
      · rw [List.getElem?_set_self hi] at e; cases e
      · rw [List.getElem?_eq_none (by simpa using hi)] at e; cases e
    · rw [List.getElem?_set_ne hv] at e
      rw [List.getElem?_set_ne hv]
      exact ih.2 i d e
end

def lcGo (gs : Gs) (tg : TgM) (ts : TsM) (fe : ExM) (env0 : Env) : List D → Sto → Res (List D)
  | [], S => if gok gs S = true then .ok [] S else .bad
  | x :: xs, S => if gok gs S = true then
      bnd (noex (tg x env0 S)) fun env1 S1 => bnd (noex (ts env1 S1)) fun k S2 =>
        if k = true then bnd (noex (fe env1 S2)) fun y S3 => bnd (stl y S3) fun d S4 => bnd (lcGo gs tg ts fe env0 xs S4) fun ds S5 => .ok (d :: ds) S5
        else lcGo gs tg ts fe env0 xs S2
    else .bad
def eLc (own : List Nat) (src : SrM) (tg : TgM) (ts : TsM) (fe : ExM) : ExM := fun env S => bnd (src env S) fun s S1 =>
  if s.1.length < big then bnd (lcGo s.2 tg ts fe (wipeE env own) s.1 S1) fun ds S2 => .ok (.new ds) S2 else .bad
def tsYes : TsM := fun _ S => .ok true S
section
variable {G : Gm} {E : XK} {μ μ' : Mp} {H H' H0 : Hp} {S S' : Sto} {X : Cx}
theorem dts_nil : PTs X [] (tTs G E tsYes) := ⟨fun pins s σ H Q I h => pts_nil.run pins s σ H Q I (by
  obtain ⟨μ, S, env, w, er, h⟩ := h
  exact h H μ Le.refl w)⟩
theorem tLc_of {src : SrM} {tgm : TgM} {tsm : TsM} {fe : ExM} {tl vs : List Nat} (hl : ∀ i ∈ tl, i ∈ vs) {σ : L2.St} {H : Hp} {Q : VK} (h : tD G E (eLc vs src tgm tsm fe) σ H Q) : tLc (tSr G E src) (tTg G X0 tl tgm) (tTs G X0 tsm) (tD G X0 fe) vs σ H Q := by
  obtain ⟨μ, S, env, w, er, h⟩ := h
  refine ⟨μ, S, env, w, er, (post_bnd.1 h).imp (fun s S1 h1 J H1 μ1 l1 w1 wk D hD => ?_) fun _ _ z => z⟩
  obtain ⟨items, gs⟩ := s
  by_cases hbig : items.length < big
  · have h1 : Post (if items.length < big then _ else Res.bad) _ _ := h1
    rw [if_pos hbig] at h1
    have h1 := post_bnd.1 h1
    have h0D : H D = none := l1.free hD
    refine ⟨fun i m Hh => ∃ μ2 S2 acc accD, Le μ H μ2 Hh ∧ Le μ1 H1 μ2 Hh ∧ Wd G μ2 Hh S2 ∧ Hh D = some (.lst acc) ∧ (∀ n, μ2 n ≠ some D) ∧ Rs G μ2 Hh accD acc ∧ acc.length ≤ i ∧ i ≤ items.length ∧ m = items.length - i ∧
      Post (lcGo gs tgm tsm fe (wipeE env vs) (items.drop i) S2) (fun ds S' => Gd G μ H Q (.new (accD ++ ds)) S') (ExP G E μ H), ⟨items.length, μ1, S1, [], [], l1.trans (Le.laid hD), Le.laid hD, w1.laid hD, upd_same, w1.free hD, .nil, Nat.le_refl _, Nat.zero_le _, rfl, ?_⟩, ?_⟩
    · rw [List.drop_zero]
      exact h1
    · rintro i m Hh ⟨μ2, S2, acc, accD, la, lb, w2, hDh, hnD, rs, hlen, hi, rfl, hp⟩
      by_cases hlt : i < items.length
      · refine .inr ?_
        rw [List.drop_eq_getElem_cons hlt] at hp
        unfold lcGo at hp
        by_cases g : gok gs S2 = true
        · rw [if_pos g] at hp
          obtain ⟨_, kd⟩ := wk i μ2 Hh S2 lb w2 g
          obtain ⟨go, yl⟩ := kd items[i] (List.getElem?_eq_getElem hlt)
          refine ⟨go, fun H' => ∃ m', m' < items.length - i ∧ ∃ μ2 S2 acc accD, Le μ H μ2 H' ∧ Le μ1 H1 μ2 H' ∧ Wd G μ2 H' S2 ∧ H' D = some (.lst acc) ∧ (∀ n, μ2 n ≠ some D) ∧ Rs G μ2 H' accD acc ∧ acc.length ≤ i + 1 ∧ i + 1 ≤ items.length ∧ m' = items.length - (i + 1) ∧
            Post (lcGo gs tgm tsm fe (wipeE env vs) (items.drop (i + 1)) S2) (fun ds S' => Gd G μ H Q (.new (accD ++ ds)) S') (ExP G E μ H), fun H' q => q, fun x H3 y => ?_⟩
          obtain ⟨l3, w3, r3⟩ := yl x H3 y
          have er3 : EnvR G μ2 H3 (wipeE env vs) (wipe σ vs) := ((la.trans l3).envR w er).wipe vs
          refine ⟨μ2, S2, wipeE env vs, items[i], w3, er3, r3, (post_noex (post_bnd.1 hp)).imp (fun env4 S4 h4 σ4 H4 μ4 l4 w4 er4 o4 => ⟨wipe_off o4 hl, ?_⟩) fun _ _ z => z⟩
          refine ⟨μ4, S4, env4, w4, er4, (post_noex (post_bnd.1 h4)).imp (fun k S5 h5 H5 μ5 l5 w5 => ?_) fun _ _ z => z⟩
          have L5 : Le μ2 Hh μ5 H5 := (l3.trans l4).trans l5
          have hD5 : H5 D = some (.lst acc) := L5.kept _ _ hDh hnD
          have hn5 : ∀ n, μ5 n ≠ some D := fun n z => by
            rcases L5.new n D z with q | q
            · exact hnD n q
            · rw [q] at hDh; cases hDh
          cases k with
          | true =>
            refine iteT ?_
            rw [if_pos rfl] at h5
            refine ⟨μ5, S5, env4, w5, l5.envR w4 er4, (post_noex (post_bnd.1 h5)).imp (fun y S6 h6 v H6 μ6 l6 w6 r6 => ?_) fun _ _ z => z⟩
            obtain ⟨d, S7, μ7, e7, l7, w7, r7, m7⟩ := stl_ok l6 w6 r6
            rw [e7] at h6
            have h6 : Post (bnd (lcGo gs tgm tsm fe (wipeE env vs) (items.drop (i + 1)) S7) fun ds S5 => .ok (d :: ds) S5) _ _ := h6
            have L7 : Le μ2 Hh μ7 H6 := L5.trans l7
            have hD7 : H6 D = some (.lst acc) := L7.kept _ _ hDh hnD
            have hn7 : ∀ n, μ7 n ≠ some D := fun n z => by
              rcases L7.new n D z with q | q
              · exact hnD n q
              · rw [q] at hDh; cases hDh
            refine ⟨acc, hD7, big_lt (by omega), items.length - (i + 1), by omega, μ7, S7, acc ++ [v], accD ++ [d], (la.trans L7).out h0D, (lb.trans L7).out hD, w7.out hD7 hn7, upd_same, hn7, ((L7.rs w2 rs).append (.one r7)).out hD7, ?_, by omega, rfl, ?_⟩
            · rw [List.length_append, List.length_singleton]; omega
            · refine (post_bnd.1 h6).imp (fun ds S8 h8 => ?_) fun _ _ z => z
              rw [List.append_assoc]
              exact h8
          | false =>
            refine iteF ?_
            rw [if_neg Bool.false_ne_true] at h5
            exact ⟨items.length - (i + 1), by omega, μ5, S5, acc, accD, la.trans L5, lb.trans L5, w5, hD5, hn5, L5.rs w2 rs, by omega, by omega, rfl, h5⟩
        · rw [if_neg g] at hp
          exact hp.elim
      · have e : i = items.length := by omega
        subst e
        rw [List.drop_length] at hp
        unfold lcGo at hp
        by_cases g : gok gs S2 = true
        · rw [if_pos g] at hp
          have hp : Gd G μ H Q (.new (accD ++ [])) S2 := hp
          rw [List.append_nil] at hp
          exact .inl ⟨(wk items.length μ2 Hh S2 lb w2 g).1 (Nat.le_refl _), hp _ Hh μ2 la w2 ⟨D, acc, rfl, hDh, hnD, h0D, rs⟩⟩
        · rw [if_neg g] at hp
          exact hp.elim
  · have h1 : Post (if items.length < big then _ else Res.bad) _ _ := h1
    rw [if_neg hbig] at h1
    exact h1.elim
end
end Bz

set_option Elab.async false
set_option linter.all false
set_option maxRecDepth 100000
set_option maxHeartbeats 2000000
/-! Bz, eighth part: statements. -/
namespace Bz
open PySem PySem.Spec PyProof.Rows L2

inductive Fl where
  | nx (env : Env) | rt (d : D) | bk (env : Env) | ct (env : Env)
abbrev StM := Env → Sto → Res Fl
def GdF (G : Gm) (μ : Mp) (H : Hp) (Z : Ends) : Fl → Sto → Prop := fun fl S' => ∀ H' μ', Le μ H μ' H' → Wd G μ' H' S' → match fl with
  | .nx env' => ∀ σ', EnvR G μ' H' env' σ' → Z.nx σ' H'
  | .bk env' => ∀ σ', EnvR G μ' H' env' σ' → Z.bk σ' H'
  | .ct env' => ∀ σ', EnvR G μ' H' env' σ' → Z.ct σ' H'
  | .rt d => ∀ v, R G μ' H' d v → Z.rt v H'
def tSt (G : Gm) (E : XK) (f : StM) : TS := fun Z σ H => ∃ μ S env, Wd G μ H S ∧ EnvR G μ H env σ ∧ Post (f env S) (GdF G μ H Z) (ExP G E μ H)
section
variable {G : Gm} {E : XK} {μ μ' μ1 : Mp} {H H' H1 H0 : Hp} {S S' : Sto} {X : Cx} {e a b : Expr} {fa fb fe : ExM} {pos : Pos} {st : Stmt} {rest : List Stmt} {f g : StM} {env : Env} {σ : L2.St}
theorem GdF.up {Z : Ends} (l : Le μ H μ1 H1) {x : Fl} (h : GdF G μ H Z x S) : GdF G μ1 H1 Z x S := fun H' μ' l' w => h H' μ' (l.trans l') w
theorem PS.wk {t t' : TS} (h : PS X st t) (k : ∀ Z σ H, t' Z σ H → t Z σ H) : PS X st t' := ⟨fun pins s σ H Z I q => h.run pins s σ H Z I (k Z σ H q)⟩
theorem PSs.wk {t t' : TS} (h : PSs X rest t) (k : ∀ Z σ H, t' Z σ H → t Z σ H) : PSs X rest t' := ⟨fun pins s σ H Z I q => h.run pins s σ H Z I (k Z σ H q)⟩
def sNil : StM := fun env S => .ok (.nx env) S
def sSeq (f g : StM) : StM := fun env S => bnd (f env S) fun fl S1 => match fl with
  | .nx env1 => g env1 S1
  | fl => .ok fl S1
theorem ds_nil : PSs X [] (tSt G E sNil) := PSs.wk pss_nil fun Z σ H ⟨μ, S, env, w, er, h⟩ => h H μ Le.refl w σ er
theorem ds_cons (h1 : PS X st (tSt G E f)) (h2 : PSs X rest (tSt G E g)) : PSs X (st :: rest) (tSt G E (sSeq f g)) := PSs.wk (pss_cons h1 h2) fun Z σ H ⟨μ, S, env, w, er, h⟩ => by
  refine ⟨μ, S, env, w, er, (post_bnd.1 h).imp (fun fl S1 h1 H1 μ1 l1 w1 => ?_) fun _ _ z => z⟩
  cases fl with
  | nx env1 => exact fun σ1 er1 => ⟨μ1, S1, env1, w1, er1, post_ex l1 h1 fun _ _ z => z.up l1⟩
  | rt d => exact h1 H1 μ1 l1 w1
  | bk env1 => exact h1 H1 μ1 l1 w1
  | ct env1 => exact h1 H1 μ1 l1 w1
def sPass : StM := fun env S => .ok (.nx env) S
def sBreak : StM := fun env S => .ok (.bk env) S
def sCont : StM := fun env S => .ok (.ct env) S
theorem ds_pass : PS X (.Pass pos) (tSt G E sPass) := PS.wk ps_pass fun Z σ H ⟨μ, S, env, w, er, h⟩ => h H μ Le.refl w σ er
theorem ds_break : PS X (.Break pos) (tSt G E sBreak) := PS.wk ps_break fun Z σ H ⟨μ, S, env, w, er, h⟩ => h H μ Le.refl w σ er
theorem ds_cont : PS X (.Continue pos) (tSt G E sCont) := PS.wk ps_continue fun Z σ H ⟨μ, S, env, w, er, h⟩ => h H μ Le.refl w σ er
def sExpr (fe : ExM) : StM := fun env S => bnd (fe env S) fun _ S1 => .ok (.nx env) S1
theorem ds_expr (hs : swapsWith e none pos.line X.env = pure false) (he : PE X e (tD G E fe)) : PS X (.Expr e pos) (tSt G E (sExpr fe)) := PS.wk (ps_expr he hs) fun Z σ H ⟨μ, S, env, w, er, h⟩ =>
  tD_go w er (post_bnd.1 h) fun x S1 v H1 μ1 l1 w1 er1 rx h1 => h1 H1 μ1 l1 w1 σ er1
def sRet (fe : ExM) : StM := fun env S => bnd (fe env S) fun x S1 => bnd (stl x S1) fun d S2 => .ok (.rt d) S2
theorem ds_ret (he : PE X e (tD G E fe)) : PS X (.Return (some e) pos) (tSt G E (sRet fe)) := PS.wk (ps_ret he) fun Z σ H ⟨μ, S, env, w, er, h⟩ =>
  tD_go w er (post_bnd.1 h) fun x S1 v H1 μ1 l1 w1 er1 rx h1 => by
    obtain ⟨d, S2, μ2, e2, l2, w2, r2, _⟩ := stl_ok l1 w1 rx
    rw [e2] at h1
    exact h1 H1 μ2 l2 w2 v r2
def sRetN : StM := fun _ S => .ok (.rt .non) S
theorem ds_retN : PS X (.Return none pos) (tSt G E sRetN) := PS.wk ps_retN fun Z σ H ⟨μ, S, env, w, er, h⟩ => h H μ Le.refl w .non .non
def sIf (t : TsM) (f g : StM) : StM := fun env S => bnd (t env S) fun k S1 => if k = true then f env S1 else g env S1
theorem ds_if {c : Expr} {xs ys : List Stmt} {tc : TsM} (hc : PT X c (tTs G E tc)) (ha : PSs X xs (tSt G E f)) (hb : PSs X ys (tSt G E g)) : PS X (.If c xs ys pos) (tSt G E (sIf tc f g)) := PS.wk (ps_if hc ha hb) fun Z σ H ⟨μ, S, env, w, er, h⟩ =>
  tTs_go w er (post_bnd.1 h) fun k S1 H1 μ1 l1 w1 er1 h1 => by
    cases k with
    | true => exact iteT ⟨μ1, S1, env, w1, er1, post_ex l1 h1 fun _ _ z => z.up l1⟩
    | false => exact iteF ⟨μ1, S1, env, w1, er1, post_ex l1 h1 fun _ _ z => z.up l1⟩
/-- target = value -/
def sAsg (fe : ExM) (tg : TgM) : StM := fun env S => bnd (fe env S) fun x S1 => bnd (stl x S1) fun d S2 => bnd (tg d env S2) fun env1 S3 => .ok (.nx env1) S3
theorem asg_of {tg : TgM} {ts : List Nat} {Z : Ends} (h : tSt G E (sAsg fe tg) Z σ H) : tAsg (tD G E fe) (tTg G E ts tg) Z σ H := by
  obtain ⟨μ, S, env, w, er, h⟩ := h
  refine tD_go w er (post_bnd.1 h) fun x S1 v H1 μ1 l1 w1 er1 rx h1 => ?_
  obtain ⟨d, S2, μ2, e2, l2, w2, r2, m2⟩ := stl_ok l1 w1 rx
  rw [e2] at h1
  have h1 : Post (bnd (tg d env S2) fun env1 S3 => .ok (.nx env1) S3) (GdF G μ H Z) (ExP G E μ H) := h1
  exact ⟨μ2, S2, env, d, w2, l2.envR w er, r2, (post_bnd.1 h1).imp (fun env1 S3 h3 σ3 H3 μ3 l3 w3 er3 _ => h3 H3 μ3 (l2.trans l3) w3 σ3 er3) fun _ _ z => z.up l2⟩
theorem ds_asg {t : Expr} {tg : TgM} {ts : List Nat} (hs : swapsWithSole [t] e pos.line X.env = pure false) (hw : swappedStores [t] e X.env = pure none) (h1 : (assignEach [t] X.env).map (·.2) = [assign t X.env]) (he : PE X e (tD G E fe)) (hg : PG X t (tTg G E ts tg)) :
    PS X (.Assign [t] e pos) (tSt G E (sAsg fe tg)) := PS.wk (ps_asg he hg hs hw h1) fun Z σ H h => asg_of h
theorem gName_of {i : Nat} {v : V} {Q : L2.St → Hp → Prop} (h : tTg G E [i] (gNm i) v σ H Q) : gName i v σ H Q := by
  obtain ⟨μ, S, env, d, w, er, r, h⟩ := h
  unfold gNm at h
  split at h
  · exact h _ H μ Le.refl w (er.set r) (offT.set (by simp))
  · exact h.elim
theorem tD_mono {Q Q' : VK} (h : tD G E fe σ H Q) (k : ∀ v H1, Q v H1 → Q' v H1) : tD G E fe σ H Q' := by
  obtain ⟨μ, S, env, w, er, h⟩ := h
  exact ⟨μ, S, env, w, er, h.imp (fun x S1 g v H1 μ1 l1 w1 r => k v H1 (g v H1 μ1 l1 w1 r)) fun _ _ z => z⟩
theorem set_of {i : Nat} {Z : Ends} (h : tSt G E (sAsg fe (gNm i)) Z σ H) : tAsg (tD G E fe) (gName i) Z σ H :=
  tD_mono (asg_of (ts := [i]) h) fun v H1 q => gName_of (E := E) q
theorem ds_set {i : Nat} {x : Str} {pos' : Pos} (hN : X.N.Nodup) (hi : X.N[i]? = some x) (hx : Loc X.env.scope x) (hf : X.fn x = true ∨ X.env.scope.names.lookup x = some .local) (hs : swapsWith e (some (.Name x pos')) pos.line X.env = pure false) (he : PE X e (tD G E fe)) :
    PS X (.Assign [.Name x pos'] e pos) (tSt G E (sAsg fe (gNm i))) := PS.wk (ps_set hN hi hx he hs hf) fun Z σ H h => set_of h
theorem ds_setLc {i : Nat} {y : Str} {py : Pos} {elt tg iter : Expr} {ifs : List Expr} {scope : Scope} {own : List (Str × Nat)} {spos : Pos} {src : SrM} {tgm : TgM} {tsm : TsM} {tl : List Nat} (hc : X.calm = true) (hN : X.N.Nodup) (hy : X.N[i]? = some y) (hyl : X.env.scope.names.lookup y = some .local)
    (hsw : swapsWith (.ListComp elt [⟨tg, iter, ifs, 0⟩] scope pos) (some (.Name y py)) spos.line X.env = pure true) (hi : PI X tg iter (tSr G E src)) (ok : BlkOk X.N X.env.scope scope own)
    (hg : ∀ (s : Shared) (H : Hp) (C : Addr) (cl : List (Str × Addr)) (fp : List Addr), PG (X.blk s H scope (compEnvC scope cl C X.env) fp) tg (tTg G X0 tl tgm)) (ht : ∀ (s : Shared) (H : Hp) (C : Addr) (cl : List (Str × Addr)) (fp : List Addr), PTs (X.blk s H scope (compEnvC scope cl C X.env) fp) ifs (tTs G X0 tsm))
    (he : ∀ (s : Shared) (H : Hp) (C : Addr) (cl : List (Str × Addr)) (fp : List Addr), PE (X.blk s H scope (compEnvC scope cl C X.env) fp) elt (tD G X0 fe)) (hs : ∀ x, foldedSetIterable iter X.env x = pure x) (hl : ∀ i ∈ tl, i ∈ own.map (·.2)) :
    PS X (.Assign [.Name y py] (.ListComp elt [⟨tg, iter, ifs, 0⟩] scope pos) spos) (tSt G E (sAsg (eLc (own.map (·.2)) src tgm tsm fe) (gNm i))) :=
  PS.wk (ps_setLc hc hN hy hyl hsw hi ok hg ht he hs) fun Z σ H h => tLc_of hl (set_of h)
theorem de_lc {tg iter elt : Expr} {ifs : List Expr} {scope : Scope} {own : List (Str × Nat)} {src : SrM} {tgm : TgM} {tsm : TsM} {tl : List Nat} (hc : X.calm = true) (hN : X.N.Nodup) (hi : PI X tg iter (tSr G E src)) (ok : BlkOk X.N X.env.scope scope own)
    (hg : ∀ (s : Shared) (H : Hp) (C : Addr) (cl : List (Str × Addr)) (fp : List Addr), PG (X.blk s H scope (compEnvC scope cl C X.env) fp) tg (tTg G X0 tl tgm)) (ht : ∀ (s : Shared) (H : Hp) (C : Addr) (cl : List (Str × Addr)) (fp : List Addr), PTs (X.blk s H scope (compEnvC scope cl C X.env) fp) ifs (tTs G X0 tsm))
    (he : ∀ (s : Shared) (H : Hp) (C : Addr) (cl : List (Str × Addr)) (fp : List Addr), PE (X.blk s H scope (compEnvC scope cl C X.env) fp) elt (tD G X0 fe)) (hs : ∀ x, foldedSetIterable iter X.env x = pure x) (hl : ∀ i ∈ tl, i ∈ own.map (·.2)) :
    PE X (.ListComp elt [⟨tg, iter, ifs, 0⟩] scope pos) (tD G E (eLc (own.map (·.2)) src tgm tsm fe)) :=
  PE.wk (pe_lc hc hN hi ok hg ht he hs) fun σ H Q h => tLc_of hl h
/-- o[i] = value, o a list -/
def setL (o : Rv) (i : Rv) (d : D) (S : Sto) : Res Unit := match i with
  | .val (.int k) => match o with
    | .val (.loc n) => match S[n]? with
      | some (.lst xs) => (match ixN xs.length k with
        | some j => .ok () (S.set n (.lst (xs.set j d)))
        | none => .bad)
      | _ => .bad
    | _ => .bad
  | _ => .bad
theorem setL_ok {o i : Rv} {d : D} {ov iv v : V} {H0 H00 : Hp} {Q : Hp → Prop} {QE : Exn → Sto → Prop} (w : Wd G μ H S) (ro : Rx G H0 μ H o ov) (ri : Rx G H00 μ H i iv) (r : R G μ H d v) (h : Post (setL o i d S) (fun _ S' => ∀ H' μ', Le μ H μ' H' → Wd G μ' H' S' → Q H') QE) : rSetL ov iv v H Q := by
  unfold setL at h
  split at h
  · cases ri
    split at h
    · cases ro with
      | @loc n a hn =>
        split at h
        · rename_i xs e
          split at h
          · rename_i j ej
            obtain ⟨vs, ha, rs⟩ := w.obj _ a _ hn e
            exact ⟨a, vs, _, j, rfl, rfl, ha, by rw [← rs.length]; exact ej, h _ μ (Le.write hn ha) (w.write hn ha (rs.set r j))⟩
          · exact h.elim
        · exact h.elim
    · exact h.elim
  · exact h.elim
/-- a target o[i] -/
def gSb (st : Rv → Rv → D → Sto → Res Unit) (fo fi : ExM) : TgM := fun d env S => bnd (fo env S) fun o S1 => bnd (fi env S1) fun i S2 => bnd (st o i d S2) fun _ S3 => .ok env S3
theorem dg_sub {o i : Expr} {fo fi : ExM} (hp : plainE i = true) (ho : PE X o (tD G E fo)) (hi : PE X i (tD G E fi)) : PG X (.Subscript o i pos) (tTg G E [] (gSb setL fo fi)) :=
  PG.wk (pg_sub ho hi set_list (by intro v; cases i <;> first | rfl | (simp [plainE] at hp))) fun v σ H Q ⟨μ, S, env, d, w, er, r, h⟩ => by
    refine tD_go w er (post_bnd.1 h) fun x S1 xv H1 μ1 l1 w1 er1 rx h1 => ?_
    refine tD_go w1 er1 (post_ex l1 (post_bnd.1 h1) fun _ _ z => z) fun y S2 yv H2 μ2 l2 w2 er2 ry h2 => ?_
    have l := l1.trans l2
    refine setL_ok w2 (l2.rx w1 rx) (l1.rx0 ry) (l.r w r) ((post_bnd.1 h2).imp (fun _ S3 h3 H3 μ3 l3 w3 => ?_) fun _ _ z => z)
    exact h3 σ H3 μ3 (l.trans l3) w3 ((l.trans l3).envR w er) ⟨rfl, fun _ _ => rfl⟩
/-- a, b = x, y: stored from the right -/
def sPar2 (i j : Nat) (fa : ArM) : StM := fun env S => bnd (fa env S) fun ds S1 => match ds with
  | [d, e] => if i < env.length ∧ j < env.length then .ok (.nx ((env.set i (some d)).set j (some e))) S1 else .bad
  | _ => .bad
theorem par2_of {i j : Nat} {ga : ArM} {Z : Ends} (h : tSt G E (sPar2 i j ga) Z σ H) : tPar i j (tAr G E ga) Z σ H := by
  obtain ⟨μ, S, env, w, er, h⟩ := h
  refine tAr_go w er (post_bnd.1 h) fun ds S1 vs H1 μ1 l1 w1 er1 rs h1 => ?_
  split at h1
  · split at h1
    · cases rs with
      | @cons _ v _ _ r1 rs =>
        cases rs with
        | @cons _ u _ _ r2 rs =>
          cases rs
          exact ⟨v, u, rfl, h1 H1 μ1 l1 w1 _ ((er1.set r1).set r2)⟩
    · exact h1.elim
  · exact h1.elim
def sPar3 (i j l : Nat) (fa : ArM) : StM := fun env S => bnd (fa env S) fun ds S1 => match ds with
  | [d, e, f] => if i < env.length ∧ j < env.length ∧ l < env.length then .ok (.nx (((env.set i (some d)).set j (some e)).set l (some f))) S1 else .bad
  | _ => .bad
theorem par3_of {i j l : Nat} {ga : ArM} {Z : Ends} (h : tSt G E (sPar3 i j l ga) Z σ H) : tPar3 i j l (tAr G E ga) Z σ H := by
  obtain ⟨μ, S, env, w, er, h⟩ := h
  refine tAr_go w er (post_bnd.1 h) fun ds S1 vs H1 μ1 l1 w1 er1 rs h1 => ?_
  split at h1
  · split at h1
    · cases rs with
      | @cons _ v _ _ r1 rs =>
        cases rs with
        | @cons _ u _ _ r2 rs =>
          cases rs with
          | @cons _ t _ _ r3 rs =>
            cases rs
            exact ⟨v, u, t, rfl, h1 H1 μ1 l1 w1 _ (((er1.set r1).set r2).set r3)⟩
    · exact h1.elim
  · exact h1.elim
/-- name op= value -/
def sAug (i : Nat) (g : Rv → Rv → Sto → Res Rv) (fe : ExM) : StM := fun env S => match env[i]? with
  | some (some d) => bnd (fe env S) fun y S1 => bnd (g (.val d) y S1) fun z S2 => bnd (stl z S2) fun d2 S3 => if i < env.length then .ok (.nx (env.set i (some d2))) S3 else .bad
  | _ => .bad
theorem ds_aug {i : Nat} {x : Str} {op : Operator} {r : R2} {g : Rv → Rv → Sto → Res Rv} {pos' : Pos} (hN : X.N.Nodup) (hi : X.N[i]? = some x) (hx : Loc X.env.scope x) (hf : X.fn x = true ∨ X.env.scope.names.lookup x = some .local) (ho : OpR X (inplaceOp op) r) (o : OkOp G E r g) (he : PE X e (tD G E fe)) :
    PS X (.AugAssign (.Name x pos') op e pos) (tSt G E (sAug i g fe)) := PS.wk (ps_aug hN hi hx he ho hf) fun Z σ H ⟨μ, S, env, w, er, h⟩ => by
  unfold sAug at h
  split at h
  · rename_i d ed
    obtain ⟨v, ev, rv⟩ := er.2 i d ed
    refine ⟨v, ev, ?_⟩
    refine tD_go w er (post_bnd.1 h) fun y S1 u H1 μ1 l1 w1 er1 ry h1 => ?_
    refine o (.val d) y S1 v u μ1 H1 H _ _ w1 (l1.r w rv) ry ((post_bnd.1 h1).imp (fun z S2 h2 z' H2 μ2 l2 w2 rz => ?_) fun _ _ z => z)
    have l := l1.trans l2
    obtain ⟨d2, S3, μ3, e3, l3, w3, r3, _⟩ := stl_ok l w2 (l1.rx0 rz)
    rw [e3] at h2
    have h2 : Post (if i < env.length then .ok (.nx (env.set i (some d2))) S3 else .bad) (GdF G μ H Z) (ExP G E μ H) := h2
    split at h2
    · exact h2 H2 μ3 l3 w3 _ ((l3.envR w er).set r3)
    · exact h2.elim
  · exact h.elim
end

/-! ### loops -/
def forGo (gs : Gs) (tg : TgM) (body : StM) : List D → Env → Sto → Res Fl
  | [], env, S => if gok gs S = true then .ok (.nx env) S else .bad
  | x :: xs, env, S => if gok gs S = true then
      bnd (tg x env S) fun env1 S1 => bnd (body env1 S1) fun fl S2 => match fl with
        | .nx env2 => forGo gs tg body xs env2 S2
        | .ct env2 => forGo gs tg body xs env2 S2
        | .bk env2 => .ok (.nx env2) S2
        | .rt d => .ok (.rt d) S2
    else .bad
def sFor (src : SrM) (tg : TgM) (body : StM) : StM := fun env S => bnd (src env S) fun s S1 => forGo s.2 tg body s.1 env S1
def whGo (t : TsM) (body : StM) : Nat → Env → Sto → Res Fl
  | 0, _, _ => .bad
  | n + 1, env, S => bnd (t env S) fun k S1 => if k = true then bnd (body env S1) fun fl S2 => match fl with
        | .nx env2 => whGo t body n env2 S2
        | .ct env2 => whGo t body n env2 S2
        | .bk env2 => .ok (.nx env2) S2
        | .rt d => .ok (.rt d) S2
      else .ok (.nx env) S1
def sWhile (t : TsM) (body : StM) : StM := fun env S => whGo t body big env S
section
variable {G : Gm} {E : XK} {X : Cx} {pos : Pos}
theorem ds_for {tg iter : Expr} {body : List Stmt} {src : SrM} {tgm : TgM} {f : StM} {ts : List Nat} (hp : PassesOwn (model X.prog X.w) X.A X.env X.xe) (hc : X.calm = true) (hi : PI X tg iter (tSr G E src)) (hg : PG X tg (tTg G E ts tgm)) (hb : PSs X body (tSt G E f))
    (hs : ∀ x, foldedSetIterable iter X.env x = pure x) : PS X (.For tg iter body [] pos) (tSt G E (sFor src tgm f)) := PS.wk (ps_for hp hc hi hg hb hs) fun Z σ H ⟨μ, S, env, w, er, h⟩ => by
  refine ⟨μ, S, env, w, er, (post_bnd.1 h).imp (fun s S1 h1 J H1 μ1 l1 w1 wk => ?_) fun _ _ z => z⟩
  obtain ⟨items, gs⟩ := s
  have h1 : Post (forGo gs tgm f items env S1) (GdF G μ H Z) (ExP G E μ H) := h1
  refine ⟨fun i m σ' Hh => ∃ μ2 S2 env2, Le μ H μ2 Hh ∧ Le μ1 H1 μ2 Hh ∧ Wd G μ2 Hh S2 ∧ EnvR G μ2 Hh env2 σ' ∧ i ≤ items.length ∧ m = items.length - i ∧ Post (forGo gs tgm f (items.drop i) env2 S2) (GdF G μ H Z) (ExP G E μ H),
    ⟨items.length, μ1, S1, env, l1, Le.refl, w1, l1.envR w er, Nat.zero_le _, rfl, by rw [List.drop_zero]; exact h1⟩, ?_⟩
  rintro i m σ' Hh ⟨μ2, S2, env2, la, lb, w2, er2, hi, rfl, hp⟩
  by_cases hlt : i < items.length
  · refine .inr ?_
    rw [List.drop_eq_getElem_cons hlt] at hp
    unfold forGo at hp
    by_cases g : gok gs S2 = true
    · rw [if_pos g] at hp
      obtain ⟨_, kd⟩ := wk i μ2 Hh S2 lb w2 g
      obtain ⟨go, yl⟩ := kd items[i] (List.getElem?_eq_getElem hlt)
      refine ⟨go, fun σ' H' => ∃ m', m' < items.length - i ∧ ∃ μ2 S2 env2, Le μ H μ2 H' ∧ Le μ1 H1 μ2 H' ∧ Wd G μ2 H' S2 ∧ EnvR G μ2 H' env2 σ' ∧ i + 1 ≤ items.length ∧ m' = items.length - (i + 1) ∧ Post (forGo gs tgm f (items.drop (i + 1)) env2 S2) (GdF G μ H Z) (ExP G E μ H),
        fun _ _ q => q, fun x H3 y => ?_⟩
      obtain ⟨l3, w3, r3⟩ := yl x H3 y
      have la3 := la.trans l3
      refine ⟨μ2, S2, env2, items[i], w3, l3.envR w2 er2, r3, (post_bnd.1 hp).imp (fun env4 S4 h4 σ4 H4 μ4 l4 w4 er4 o4 => ?_) fun _ _ z => z.up la3⟩
      have la4 := la3.trans l4
      refine ⟨μ4, S4, env4, w4, er4, (post_bnd.1 h4).imp (fun fl S5 h5 H5 μ5 l5 w5 => ?_) fun _ _ z => z.up la4⟩
      have la5 := la4.trans l5
      have lb5 := ((lb.trans l3).trans l4).trans l5
      cases fl with
      | nx env5 => exact fun σ5 er5 => ⟨items.length - (i + 1), by omega, μ5, S5, env5, la5, lb5, w5, er5, by omega, rfl, h5⟩
      | ct env5 => exact fun σ5 er5 => ⟨items.length - (i + 1), by omega, μ5, S5, env5, la5, lb5, w5, er5, by omega, rfl, h5⟩
      | bk env5 => exact fun σ5 er5 => h5 H5 μ5 la5 w5 σ5 er5
      | rt d => exact fun v r => h5 H5 μ5 la5 w5 v r
    · rw [if_neg g] at hp
      exact hp.elim
  · have e : i = items.length := by omega
    subst e
    rw [List.drop_length] at hp
    unfold forGo at hp
    by_cases g : gok gs S2 = true
    · rw [if_pos g] at hp
      exact .inl ⟨(wk items.length μ2 Hh S2 lb w2 g).1 (Nat.le_refl _), hp Hh μ2 la w2 σ' er2⟩
    · rw [if_neg g] at hp
      exact hp.elim
theorem ds_while {c : Expr} {body : List Stmt} {t : TsM} {f : StM} (hp : PassesOwn (model X.prog X.w) X.A X.env X.xe) (hc : PT X c (tTs G E t)) (hb : PSs X body (tSt G E f)) : PS X (.While c body [] pos) (tSt G E (sWhile t f)) := PS.wk (ps_while hp hc hb) fun Z σ H ⟨μ, S, env, w, er, h⟩ => by
  refine ⟨fun m σ' Hh => ∃ μ2 S2 env2, Le μ H μ2 Hh ∧ Wd G μ2 Hh S2 ∧ EnvR G μ2 Hh env2 σ' ∧ Post (whGo t f m env2 S2) (GdF G μ H Z) (ExP G E μ H), ⟨big, μ, S, env, Le.refl, w, er, h⟩, ?_⟩
  rintro m σ' Hh ⟨μ2, S2, env2, la, w2, er2, hp⟩
  cases m with
  | zero => exact hp.elim
  | succ n =>
    refine ⟨μ2, S2, env2, w2, er2, (post_bnd.1 hp).imp (fun k S3 h3 H3 μ3 l3 w3 => ?_) fun _ _ z => z.up la⟩
    have la3 := la.trans l3
    cases k with
    | true =>
      refine iteT ⟨fun σ' H' => ∃ m', m' < n + 1 ∧ ∃ μ2 S2 env2, Le μ H μ2 H' ∧ Wd G μ2 H' S2 ∧ EnvR G μ2 H' env2 σ' ∧ Post (whGo t f m' env2 S2) (GdF G μ H Z) (ExP G E μ H), fun _ _ q => q, ?_⟩
      rw [if_pos rfl] at h3
      refine ⟨μ3, S3, env2, w3, l3.envR w2 er2, (post_bnd.1 h3).imp (fun fl S5 h5 H5 μ5 l5 w5 => ?_) fun _ _ z => z.up la3⟩
      have la5 := la3.trans l5
      cases fl with
      | nx env5 => exact fun σ5 er5 => ⟨n, Nat.lt_succ_self _, μ5, S5, env5, la5, w5, er5, h5⟩
      | ct env5 => exact fun σ5 er5 => ⟨n, Nat.lt_succ_self _, μ5, S5, env5, la5, w5, er5, h5⟩
      | bk env5 => exact fun σ5 er5 => h5 H5 μ5 la5 w5 σ5 er5
      | rt d => exact fun v r => h5 H5 μ5 la5 w5 v r
    | false =>
      rw [if_neg Bool.false_ne_true] at h3
      exact iteF (h3 H3 μ3 la3 w3 σ' (l3.envR w2 er2))
end
end Bz

set_option Elab.async false
set_option linter.all false
set_option maxRecDepth 100000
set_option maxHeartbeats 2000000
/-! Bz, further expressions: x[::-1], isinstance(x, (A, B)). -/
namespace Bz
open PySem PySem.Spec PyProof.Rows L2
section
variable {prog : Program} {w : World} {A : Around} {E : Value → Shared → Prop} {s : Shared}
theorem places_rev (n : Nat) : Builtin.Slice.slicePlaces ((n : Int) - 1) (-1) (-1) = n := by
  unfold Builtin.Slice.slicePlaces
  rw [if_neg (by decide)]
  split
  · rw [show (-(-1 : Int)) = 1 from rfl, Int.ediv_one]; omega
  · omega
theorem applied_rev {sl : Addr} {vl vu vs : Value} {n : Nat} {Q : Int × Int × Nat → Shared → Prop} (hs : s.heap.IsSliceOf sl vl vu vs) (pl : IsPart vl none) (pu : IsPart vu none) (ps : IsPart vs (some (-1)))
    (h : Q ((n : Int) - 1, -1, n) s) : wpAny (model prog w) A (Builtin.Slice.sliceApplied (.ref sl) (pure (n : Int))) Q E s := by
  obtain ⟨os, h1, h2, h3⟩ := id hs
  unfold Builtin.Slice.sliceApplied Builtin.Slice.sliceFields
  refine wpAny_bind (wpAny_bind (wpAny_field h1 h3 (x := vl) rfl (wpAny_bind (wpAny_field h1 h3 (x := vu) rfl (wpAny_bind (wpAny_field h1 h3 (x := vs) rfl (wpAny_pure ?_)))))))
  refine wpAny_bind (HT.slicePart_ ps ?_)
  show wpAny _ _ (if ((-1 : Int) == 0) = true then _ else _) _ _ s
  rw [if_neg (by decide)]
  refine wpAny_bind (HT.slicePart_ pl (wpAny_bind (HT.slicePart_ pu (wpAny_bind (wpAny_pure ?_)))))
  show wpAny _ _ (pure ((n : Int) - 1, (-1 : Int), Builtin.Slice.slicePlaces ((n : Int) - 1) (-1) (-1))) _ _ s
  rw [places_rev]
  exact wpAny_pure h
theorem pick_rev : ∀ (xs : List Value), ((List.range xs.length).filterMap fun (m : Nat) => xs.toArray[(((xs.length : Int) - 1) + (m : Int) * (-1)).toNat]?) = xs.reverse := fun xs => by
  have h : ∀ k, k ≤ xs.length → ((List.range k).filterMap fun (m : Nat) => xs.toArray[(((xs.length : Int) - 1) + (m : Int) * (-1)).toNat]?) = xs.reverse.take k := by
    intro k
    induction k with
    | zero => intro _; rfl
    | succ k ih =>
      intro hk
      rw [List.range_succ, List.filterMap_append, ih (by omega), List.take_add_one]
      congr 1
      have e : (((xs.length : Int) - 1) + (k : Int) * (-1)).toNat = xs.length - 1 - k := by omega
      rw [List.getElem?_reverse (by omega)]
      simp only [List.filterMap_cons, List.filterMap_nil, e, List.getElem?_toArray]
      rw [List.getElem?_eq_getElem (by omega)]
      rfl
  rw [h xs.length (Nat.le_refl _), List.take_of_length_le (by simp)]
theorem item_tup_rev {t sl : Addr} {its : List Value} {vl vu vs : Value} {Q : Value → Shared → Prop} (ht : IsTup s.heap t its.toArray) (hs : s.heap.IsSliceOf sl vl vu vs) (pl : IsPart vl none) (pu : IsPart vu none) (ps : IsPart vs (some (-1)))
    (h : Q (.ref s.heap.objs.size) { s with heap := s.heap.push { cls := .type "tuple", data := .seq its.reverse.toArray } }) (hsz : its.length ≤ sizeLine) : wpAny (model prog w) A (getItem (.ref t) (.ref sl)) Q E s := by
  have hz : sizeOk (.seq its.reverse.toArray) := by
    show its.reverse.toArray.size ≤ sizeLine
    rw [List.size_toArray, List.length_reverse]
    exact hsz
  obtain ⟨os, h1, h2, h3⟩ := id hs
  have hT : s.TypeIs (.ref sl) "slice" := ⟨os, h1, h2⟩
  unfold getItem
  try with_reducible refine wpAny_holding ?_
  first | refine wpAny_bind (wpAny_pure ?_) | skip
  refine wpAny_bind (wpAny_sequenceKey ht.typeIs (by decide) (wpAny_bind (wpAny_callSpecial?_slot (name := Str.ofString "__getitem__") ht.typeIs PyProof.Rows.slot_tuple_getitem (wpAny_call_entry PyProof.Rows.slot_tuple_getitem ht.typeIs entry_tuple_getitem ?_ (args_tuple_getitem _ _)))))
  show wpAny _ _ (Builtin.Tuple.tupleItemsOf (.ref t) >>= _) _ _ s
  refine wpAny_bind (tupleItemsOf_ ht (wpAny_bind (wpAny_typeOf hT ?_)))
  rw [if_pos (by decide)]
  refine wpAny_bind (applied_rev hs pl pu ps ?_)
  show wpAny _ _ (if (((its.toArray.size : Int) - 1 == 0 && (-1 : Int) == 1 && its.toArray.size == its.toArray.size)) = true then _ else _) _ _ s
  rw [if_neg (by simp)]
  have e : ((List.range its.toArray.size).filterMap fun (m : Nat) => its.toArray[(((its.toArray.size : Int) - 1) + (m : Int) * (-1)).toNat]?) = its.reverse := by
    rw [List.size_toArray]; exact pick_rev its
  rw [e]
  first
    | exact wpAny_bind (m := Builtin.Tuple.tupleExact _) (wpAny_newObj_type (wpAny_pure ⟨_, rfl, wpAny_pure h⟩) hz)
    | exact wpAny_bind (m := Builtin.Tuple.tupleExact _) (wpAny_newObj_type (wpAny_bind (wpAny_pure (wpAny_pure ⟨_, rfl, wpAny_pure h⟩))) hz)
    | exact wpAny_bind (wpAny_bind (m := Builtin.Tuple.tupleExact _) (wpAny_newObj_type (wpAny_pure (wpAny_pure ⟨_, rfl, wpAny_pure h⟩)) hz))
    | exact wpAny_bind (wpAny_bind (m := Builtin.Tuple.tupleExact _) (wpAny_newObj_type (wpAny_pure ⟨_, rfl, wpAny_pure h⟩) hz))
end
variable {G : Gm} {E : XK}
section
variable {X : Cx}
def tRev (K : PySem.W.Frag) (te : TE) : TE := fun σ H Q => te σ H fun x H1 => (∃ a xs, x = .ref a ∧ SqL K H1 a xs ∧ ∀ p, H1 p = none → Q (.ref p) (upd H1 p (.lst xs.reverse))) ∨ (∃ a xs, x = .ref a ∧ SqT K H1 a xs ∧ ∀ p, H1 p = none → Q (.ref p) (upd H1 p (.tup xs.reverse)))
theorem pe_rev {e : Expr} {te : TE} {k : Nat} {p1 p2 p3 pos : Pos} (he : PE X e te) : PE X (.Subscript e (.Slice none none (some (.UnaryOp .USub (.Constant (.int 1) k p1) p2)) p3) pos) (tRev X.K te) := by
  refine ⟨fun pins s σ H Q I h => Subscript_ (thn (he.run pins s σ H _ I h) fun v s1 ⟨x, H1, I1, r1, q1⟩ => ?_)⟩
  have hst : PO X (some (.UnaryOp .USub (.Constant (.int 1) k p1) p2)) (tPart (tUn (rU fun i => .int (-i)) (tC (.int 1)))) := po_some (pe_un un_neg pe_int)
  refine wpAny_Slice (thn (po_none.run pins s1 σ H1 (fun o H2 => o = none ∧ H2 = H1) I1 ⟨rfl, rfl⟩) fun vl s2 ⟨l, H2, I2, pl, el, e2⟩ => ?_)
  cases el; cases e2
  refine thn (po_none.run pins s2 σ H1 (fun o H3 => o = none ∧ H3 = H1) I2 ⟨rfl, rfl⟩) fun vu s3 ⟨u, H3, I3, pu, eu, e3⟩ => ?_
  cases eu; cases e3
  refine thn (hst.run pins s3 σ H1 (fun o H4 => o = some (-1) ∧ H4 = H1) I3 ⟨1, rfl, -1, rfl, rfl, rfl⟩) fun vs s4 ⟨o, H4, I4, ps, eo, e4⟩ => ?_
  cases eo; cases e4
  have I5 : Inv X pins σ H1 { s4 with heap := s4.heap.push { cls := .type "slice", data := .fields #[vl, vu, vs] } } := I4.kept (t' := s4.toks) fun b ob q => Heap.get?_push_of_some _ q
  rcases q1 with ⟨a, xs, ex, hx, q⟩ | ⟨a, xs, ex, hx, q⟩
  · subst ex
    cases r1
    obtain ⟨its, r, ht, hz⟩ := I5.list hx
    have hl := r.length
    refine tail_any (ops := [.ref a, .ref s4.heap.objs.size]) ht.isList.typeIs (PySem.slot_list_getitem.lookup) (wpAny_getItem_list_slice ht.isList (Heap.IsSliceOf.new _ vl vu vs) pl pu ps (by decide) ?_ (by rw [List.size_toArray]; omega)) (by with_unfolding_all rfl)
    rw [PySem.W.krv_pick]
    exact ⟨.ref _, _, I5.laid (t' := s4.toks) (o := .lst xs.reverse) (fun b ob q => Heap.get?_push_of_some _ q) (Nat.le_refl _) ⟨by rw [List.length_reverse]; exact hz, _, 0, r.reverse, Heap.get?_push_size _ rfl⟩, rfl, q _ (I5.hok.fresh (Nat.le_refl _))⟩
  · subst ex
    cases r1
    obtain ⟨its, r, ht, hz⟩ := I5.tuple hx
    have hl := r.length
    refine tail_any (ops := [.ref a, .ref s4.heap.objs.size]) ht.typeIs (PyProof.Rows.slot_tuple_getitem.lookup) (item_tup_rev ht (Heap.IsSliceOf.new _ vl vu vs) pl pu ps ?_ (by omega)) (by with_unfolding_all rfl)
    exact ⟨.ref _, _, I5.laid (t' := s4.toks) (o := .tup xs.reverse) (fun b ob q => Heap.get?_push_of_some _ q) (Nat.le_refl _) ⟨by rw [List.length_reverse]; exact hz, _, r.reverse, ⟨_, Heap.get?_push_size _ rfl, rfl, _, rfl⟩⟩, rfl, q _ (I5.hok.fresh (Nat.le_refl _))⟩
def revV (x : Rv) (S : Sto) : Res Rv := match x with
  | .val (.tup xs) => .ok (.val (.tup xs.reverse)) S
  | x => match lrdOf x S with
    | some xs => .ok (.new xs.reverse) S
    | none => .bad
theorem de_rev {e : Expr} {fa : ExM} {k : Nat} {p1 p2 p3 pos : Pos} (hK : X.K = G.K) (ha : PE X e (tD G E fa)) : PE X (.Subscript e (.Slice none none (some (.UnaryOp .USub (.Constant (.int 1) k p1) p2)) p3) pos) (tD G E (eUn revV fa)) :=
  PE.wk (pe_rev ha) fun σ H Q ⟨μ, S, env, w, er, h⟩ => tD_go w er (post_bnd.1 h) fun x S1 v H1 μ1 l1 w1 er1 rx h1 => by
    unfold revV at h1
    split at h1
    · rename_i xs
      cases rx with
      | @tup _ b vs hs rs => exact .inr ⟨b, vs, rfl, by rw [hK]; exact hs, fun p hp => h1 _ _ μ1 (l1.trans (Le.laid hp)) (w1.laid hp) (R.fresh w1 hp rs.reverse)⟩
    · split at h1
      · rename_i xs e
        obtain ⟨b, vs, e3, hs, rs⟩ := lrdOf_ok w1 rx e
        exact .inl ⟨b, vs, e3, by rw [hK]; exact hs, fun p hp => h1 _ _ μ1 (l1.trans (Le.laid hp)) (w1.laid hp) (Rx.fresh w1 hp (l1.free hp) rs.reverse)⟩
      · exact h1.elim
/-- isinstance(x, (A, B)) -/
def isiV2 (T U : Ty) (x : Rv) (S : Sto) : Res Rv := match tyOf x S with
  | some t => .ok (.val (.bl (isi t T || isi t U))) S
  | none => .bad
theorem isi2_ok : ∀ t T U : Ty, T ≠ .none → U ≠ .none → PySem.W.kitAny G.K (.type t.nm) [.type T.nm, .type U.nm] = some (isi t T || isi t U) := by
  intro t T U h1 h2
  have e1 := kit_ty (K := G.K) (isi_ok t T h1)
  have e2 := kit_ty (K := G.K) (isi_ok t U h2)
  show (match PySem.W.kitOne G.K (.type t.nm) (.type T.nm) with
    | some true => some true
    | some false => (match PySem.W.kitOne G.K (.type t.nm) (.type U.nm) with
      | some true => some true
      | some false => some false
      | none => none)
    | none => none) = _
  rw [e1, e2]
  cases isi t T <;> cases isi t U <;> rfl
theorem de_isi2 {a : Expr} {fa : ExM} {p p2 p3 p4 pos : Pos} {k : Nat} {n m : Str} (hK : X.K = G.K) {T U : Ty} (hT : T ≠ .none) (hU : U ≠ .none) (hg : Gl X "isinstance") (hm : X.mg "isinstance" = none)
    (hg2 : Gl X n) (hm2 : X.mg n = none) (hv : bootBuiltins n = some (.type T.nm)) (hn : n ≠ "__name__") (hd : (n == ("__debug__" : Str)) = false)
    (hg3 : Gl X m) (hm3 : X.mg m = none) (hv3 : bootBuiltins m = some (.type U.nm)) (hn3 : m ≠ "__name__") (hd3 : (m == ("__debug__" : Str)) = false) (hp : plainE a = true) (ha : PE X a (tD G E fa)) :
    PE X (.Call (.Name "isinstance" p) [a, .Tuple [.Name n p2, .Name m p3] k p4] [] pos) (tD G E (eUn (isiV2 T U) fa)) := by
  have h1 : PE X (.Name n p2) (tC (.ty T.nm)) := pe_bltn hg2 hm2 hv rfl hn hd
  have h2 : PE X (.Name m p3) (tC (.ty U.nm)) := pe_bltn hg3 hm3 hv3 rfl hn3 hd3
  refine PE.wk (pe_callB call_isiT hg hm (by decide +kernel) (pa_cons ha (pa_cons (pe_tup (pa_cons h1 (pa_cons h2 pa_nil rfl) rfl)) pa_nil rfl) (star_plain hp _ _)) (by decide) (by decide) (star_plain hp _ _) rfl) fun σ H Q h => ?_
  obtain ⟨μ, S, env, w, er, h⟩ := h
  refine tD_go w er (post_bnd.1 h) fun x S1 v H1 μ1 l1 w1 er1 rx h1 => ?_
  unfold isiV2 at h1
  split at h1
  · rename_i t e
    refine ⟨by show 2 ≤ sizeLine; decide, fun q hq => ?_⟩
    have w2 := w1.laid (o := .tup [.ty T.nm, .ty U.nm]) hq
    refine ⟨v, q, [.ty T.nm, .ty U.nm], .type t.nm, [.type T.nm, .type U.nm], isi t T || isi t U, rfl, upd_same, .cons (.ty _) (.cons (.ty _) .nil), ?_, by rw [hK]; exact isi2_ok t T U hT hU, h1 _ _ μ1 (l1.trans (Le.laid hq)) w2 (.bl _)⟩
    rw [hK]
    exact tyOf_ok w2 ((Le.laid hq).rx w1 rx) e
  · exact h1.elim
theorem de_glob {x : Str} {i : Int} {t : Tok} {pos : Pos} (hg : Gl X x) (hm : X.mg x = some (.int i t)) (hd : (x == ("__debug__" : Str)) = false) : PE X (.Name x pos) (tD G E (eC (.int i))) :=
  PE.wk (pe_glob (v := .int i) hg hm ⟨_, rfl⟩ hd) fun σ H Q ⟨μ, S, env, w, er, h⟩ => h _ H μ Le.refl w (.int i)
end
end Bz

set_option Elab.async false
set_option linter.all false
set_option maxRecDepth 100000
set_option maxHeartbeats 2000000
/-! Bz, zip of three lists. -/
namespace Bz
open PySem PySem.Spec PyProof.Rows L2
/-- the lists at a, b, c as they stand at each turn, the items in new triples -/
def Itz3 (K : PySem.W.Frag) (n : Nat) (a b c : Addr) : It :=
  ⟨fun i H => i < n ∧ ∃ (xs ys zs : List V) (x y z : V), SqL K H a xs ∧ SqL K H b ys ∧ SqL K H c zs ∧ xs[i]? = some x ∧ ys[i]? = some y ∧ zs[i]? = some z,
    fun i H v H' => ∃ T x y z, v = .ref T ∧ H T = none ∧ H' = upd H T (.tup [x, y, z]) ∧ (∀ xs, SqL K H a xs → xs[i]? = some x) ∧ (∀ ys, SqL K H b ys → ys[i]? = some y) ∧ ∀ zs, SqL K H c zs → zs[i]? = some z,
    fun i H => n ≤ i ∧ ∃ xs ys zs : List V, SqL K H a xs ∧ SqL K H b ys ∧ SqL K H c zs ∧ (xs.length = n ∨ ys.length = n ∨ zs.length = n) ∧ n ≤ xs.length ∧ n ≤ ys.length ∧ n ≤ zs.length⟩
theorem turn_zip3 {P : Program} {w : World} {K : PySem.W.Frag} {elts : List Expr} {kk : Nat} {tpos : Pos} {n : Nat} {a b c z TI TO i1 i2 i3 : Addr} (D : ZipSep3 z TI TO i1 i2 i3 [i1, a] [i2, b] [i3, c]) (n1 : a ≠ i1) (n2 : b ≠ i2) (n3 : c ≠ i3) :
    Turn P w K (.Tuple elts kk tpos) (Itz3 K n a b c) [z, TI, TO, i1, i2, i3] z (fun i h => i ≤ n ∧ IsZip h z TI TO .none ∧ IsTupOf3 h TI (.ref i1) (.ref i2) (.ref i3) ∧ (∃ x y u, IsTupOf3 h TO x y u) ∧ h.IsListIter i1 a i ∧ h.IsListIter i2 b i ∧ h.IsListIter i3 c i) where
  mem := List.mem_cons_self
  obj := fun i h st d hd => by
    obtain ⟨hin, hz, hTI, ⟨x, y, u, hTO⟩, ⟨o1, e1, _, d1⟩, ⟨o2, e2, _, d2⟩, ⟨o3, e3, _, d3⟩⟩ := st
    simp only [List.mem_cons, List.not_mem_nil, or_false] at hd
    rcases hd with rfl | rfl | rfl | rfl | rfl | rfl
    · exact ⟨_, hz, fun v q => nomatch q⟩
    · exact ⟨_, hTI, fun v q => nomatch q⟩
    · exact ⟨_, hTO, fun v q => nomatch q⟩
    · exact ⟨o1, e1, fun v q => by rw [d1] at q; cases q⟩
    · exact ⟨o2, e2, fun v q => by rw [d2] at q; cases q⟩
    · exact ⟨o3, e3, fun v q => by rw [d3] at q; cases q⟩
  keep := fun i h h' st k => by
    obtain ⟨hin, hz, hTI, ⟨x, y, u, hTO⟩, h1, h2, h3⟩ := st
    exact ⟨hin, k z (by simp) _ hz, k TI (by simp) _ hTI, ⟨x, y, u, k TO (by simp) _ hTO⟩, h1.at fun o q => k i1 (by simp) o q, h2.at fun o q => k i2 (by simp) o q, h3.at fun o q => k i3 (by simp) o q⟩
  item := by
    intro X hP hw hK hc i pins s σ H E I hf st hg
    subst hP hw hK
    obtain ⟨hin, hz, hTI, ⟨x0, y0, z0, hTO⟩, h1, h2, h3⟩ := st
    obtain ⟨hlt, xs, ys, zs, x, y, zz, q1, q2, q3, e1, e2, e3⟩ := hg
    obtain ⟨its1, rv1, p1, _⟩ := I.list q1
    obtain ⟨its2, rv2, p2, _⟩ := I.list q2
    obtain ⟨its3, rv3, p3, _⟩ := I.list q3
    obtain ⟨u1, hu1, ru1⟩ := rv1.get e1
    obtain ⟨u2, hu2, ru2⟩ := rv2.get e2
    obtain ⟨u3, hu3, ru3⟩ := rv3.get e3
    have hzl : z < s.heap.objs.size := Heap.lt_size hz
    have hh : X.A.in1.handled = none := I.ok.hd hc
    have lt1 := (List.getElem?_eq_some_iff.mp hu1).1
    have lt2 := (List.getElem?_eq_some_iff.mp hu2).1
    have lt3 := (List.getElem?_eq_some_iff.mp hu3).1
    refine wpAny_pyNext_zipD3_item D (Draws.list hh i1 a n1 its1.toArray) (Draws.list hh i2 b n2 its2.toArray) (Draws.list hh i3 c n3 its3.toArray) hz hTI hTO ⟨h1, p1.isList⟩ ⟨h2, p2.isList⟩ ⟨h3, p3.isList⟩ (by simpa using lt1) (by simpa using lt2) (by simpa using lt3)
      fun v1 v2 v3 h' tk r1 r2 r3 z' TO' t1 t2 t3 hT hsz hk => ?_
    have r1 : v1 = u1 := by
      have : its1[i]? = some v1 := by simpa using r1
      rw [hu1] at this; cases this; rfl
    have r2 : v2 = u2 := by
      have : its2[i]? = some v2 := by simpa using r2
      rw [hu2] at this; cases this; rfl
    have r3 : v3 = u3 := by
      have : its3[i]? = some v3 := by simpa using r3
      rw [hu3] at this; cases this; rfl
    subst r1 r2 r3
    refine ⟨_, rfl, wpAny_letOwnedTupleGo_zip (s := { s with heap := h', toks := tk }) z' fun h'' z'' sb => ?_⟩
    have hT2 : h''.get? s.heap.objs.size = some { cls := .type "tuple", data := .seq #[v1, v2, v3] } := (sb.2 _ (Nat.ne_of_gt hzl)).trans hT
    have new : ObjOk X.prog X.w (upd H s.heap.objs.size (.tup [x, y, zz])) h'' s.heap.objs.size (.tup [x, y, zz]) :=
      ⟨by show 3 ≤ sizeLine; decide, [v1, v2, v3], .cons ru1 (.cons ru2 (.cons ru3 .nil)), ⟨_, hT2, rfl, _, rfl⟩⟩
    have I1 : Inv X pins σ (upd H s.heap.objs.size (.tup [x, y, zz])) { s with heap := h'', toks := tk } :=
      I.turnedNew (t' := tk) (ch := [z, TI, TO, i1, i2, i3]) (fun c o hb q => (sb.2 c (fun q' => hb (by simp [q']))).trans (hk c o (fun q' => hb (by simp [q'])) (fun q' => hb (by simp [q'])) (fun q' => hb (by simp [q'])) (fun q' => hb (by simp [q'])) (fun q' => hb (by simp [q'])) q)) hf (Nat.le_refl _) new
    refine ⟨.ref s.heap.objs.size, _, I1, rfl, ⟨_, x, y, zz, rfl, I.hok.fresh (Nat.le_refl _), rfl, fun l hl => by rw [I.list_inj hl q1]; exact e1, fun l hl => by rw [I.list_inj hl q2]; exact e2, fun l hl => by rw [I.list_inj hl q3]; exact e3⟩, ⟨hlt, z'', ?_, ⟨v1, v2, v3, ?_⟩, ?_, ?_, ?_⟩, fun d hd => ?_⟩
    · exact (sb.2 _ D.TIz).trans (hk _ _ D.TIz D.TITO D.TIi1 D.TIi2 D.TIi3 hTI)
    · exact (sb.2 _ D.TOz).trans TO'
    · exact t1.1.at fun o q => (sb.2 _ (Ne.symm D.zi1)).trans q
    · exact t2.1.at fun o q => (sb.2 _ (Ne.symm D.zi2)).trans q
    · exact t3.1.at fun o q => (sb.2 _ (Ne.symm D.zi3)).trans q
    · have hlt : d < s.heap.objs.size := by
        have hd' := hd
        simp only [List.mem_cons, List.not_mem_nil, or_false] at hd'
        rcases hd' with rfl | rfl | rfl | rfl | rfl | rfl
        · exact hzl
        · exact Heap.lt_size hTI
        · exact Heap.lt_size hTO
        · obtain ⟨_, e, _⟩ := h1; exact Heap.lt_size e
        · obtain ⟨_, e, _⟩ := h2; exact Heap.lt_size e
        · obtain ⟨_, e, _⟩ := h3; exact Heap.lt_size e
      rw [upd_ne (Nat.ne_of_lt hlt)]
      exact (hf d hd).1
  done := by
    intro X hP hw hK hc i pins s σ H E I hf st hg
    subst hP hw hK
    obtain ⟨hin, hz, hTI, ⟨x0, y0, z0, hTO⟩, h1, h2, h3⟩ := st
    obtain ⟨hni, xs, ys, zs, q1, q2, q3, hend, g1, g2, g3⟩ := hg
    obtain ⟨its1, rv1, p1, _⟩ := I.list q1
    obtain ⟨its2, rv2, p2, _⟩ := I.list q2
    obtain ⟨its3, rv3, p3, _⟩ := I.list q3
    have hh : X.A.in1.handled = none := I.ok.hd hc
    have l1 := rv1.length
    have l2 := rv2.length
    have l3 := rv3.length
    exact wpAny_pyNext_zipD3_end D (Draws.list hh i1 a n1 its1.toArray) (Draws.list hh i2 b n2 its2.toArray) (Draws.list hh i3 c n3 its3.toArray) hz hTI hTO ⟨h1, p1.isList⟩ ⟨h2, p2.isList⟩ ⟨h3, p3.isList⟩ (by rw [List.size_toArray]; omega) (by rw [List.size_toArray]; omega) (by rw [List.size_toArray]; omega)
      (by rw [List.size_toArray, List.size_toArray, List.size_toArray]; omega) fun h' tk hk => ⟨rfl, I.turnedL (t' := tk) (ch := [z, TI, TO, i1, i2, i3]) (fun c o hb q =>
      hk c o (fun q' => hb (by simp [q'])) (fun q' => hb (by simp [q'])) (fun q' => hb (by simp [q'])) (fun q' => hb (by simp [q'])) (fun q' => hb (by simp [q'])) q) hf⟩
  self := fun A i s Q E st h => wpAny_pyIter_zip st.2.1 h
def iZip3 (K : PySem.W.Frag) (ta : TA) : TI := fun σ H R => ta σ H fun vs H1 => ∃ a b c xs ys zs, vs = [.ref a, .ref b, .ref c] ∧ SqL K H1 a xs ∧ SqL K H1 b ys ∧ SqL K H1 c zs ∧ ∃ n, R (Itz3 K n a b c) H1
theorem pi_zip3 {X : Cx} {e e2 e3 : Expr} {ta : TA} {p pos tpos : Pos} {elts : List Expr} {kk : Nat} (hg : Gl X "zip") (hm : X.mg "zip" = none) (ha : PA X [e, e2, e3] ta)
    (hs : starEach [e, e2, e3] X.env = (false, eval e X.env) :: starEach [e2, e3] X.env := by rfl) (hpl : (backTo pos (starEach [e2, e3] X.env)).any (·.1) = false := by rfl) :
    PI X (.Tuple elts kk tpos) (.Call (.Name "zip" p) [e, e2, e3] [] pos) (iZip3 X.K ta) := by
  refine ⟨fun pins s σ H R I h => Call_ (ld_blt I hg hm PyProof.Rows.boot_zip (PyProof.Rows.callWith_type1 (thn (ha.run pos pins s σ H _ I h) fun us s1 ⟨vs, H1, I1, r1, q1⟩ => ?_) hs hpl))⟩
  obtain ⟨a, b, c, xs, ys, zs, ex, hqx, hqy, hqz, n, q⟩ := q1
  subst ex
  cases r1 with
  | cons r rr =>
    cases rr with
    | cons r' rr =>
      cases rr with
      | cons r'' rr =>
        cases rr; cases r; cases r'; cases r''
        obtain ⟨its1, rv1, p1, _⟩ := I1.list hqx
        obtain ⟨its2, rv2, p2, _⟩ := I1.list hqy
        obtain ⟨its3, rv3, p3, _⟩ := I1.list hqz
        have la : a < s1.heap.objs.size := p1.lt
        have lb : b < s1.heap.objs.size := p2.lt
        have lc : c < s1.heap.objs.size := p3.lt
        refine zip_begins3 (begins_list a its1.toArray) (begins_list b its2.toArray) (begins_list c its3.toArray) p1.isList p2.isList p3.isList fun h' hz hTI hTO h1 h2 h3 hsz hk => wpAny_pyIter_zip hz ?_
        have I2 : Inv X pins σ H1 { s1 with heap := h' } := I1.kept (t' := s1.toks) hk
        refine ⟨s1.heap.objs.size + 5, [s1.heap.objs.size + 5, s1.heap.objs.size + 3, s1.heap.objs.size + 4, s1.heap.objs.size, s1.heap.objs.size + 1, s1.heap.objs.size + 2], _, _, H1, rfl, I2,
          turn_zip3 (zip_sep3 (fp1 := [a]) (fp2 := [b]) (fp3 := [c]) (by simpa using la) (by simpa using lb) (by simpa using lc)) (Nat.ne_of_lt la) (Nat.ne_of_lt (Nat.lt_succ_of_lt lb)) (Nat.ne_of_lt (Nat.lt_succ_of_lt (Nat.lt_succ_of_lt lc))),
          ⟨Nat.zero_le _, hz, hTI, ⟨_, _, _, hTO⟩, ⟨_, h1, rfl, rfl⟩, ⟨_, h2, rfl, rfl⟩, ⟨_, h3, rfl, rfl⟩⟩, fun d hd => ?_, q⟩
        have hle : s1.heap.objs.size ≤ d := by
          simp only [List.mem_cons, List.not_mem_nil, or_false] at hd
          rcases hd with rfl | rfl | rfl | rfl | rfl | rfl
          · exact Nat.le_add_right _ _
          · exact Nat.le_add_right _ _
          · exact Nat.le_add_right _ _
          · exact Nat.le_refl _
          · exact Nat.le_add_right _ _
          · exact Nat.le_add_right _ _
        exact I1.fpOk hle (I1.hok.fresh hle)
/-! ### the source -/
variable {G : Gm} {E : XK}
def zipD3 (xs ys zs : List D) : List D := (xs.zip (ys.zip zs)).map fun p => D.tup [p.1, p.2.1, p.2.2]
theorem zipD3_get {xs ys zs : List D} {i : Nat} {d : D} (h : (zipD3 xs ys zs)[i]? = some d) : ∃ x y z, xs[i]? = some x ∧ ys[i]? = some y ∧ zs[i]? = some z ∧ d = .tup [x, y, z] := by
  unfold zipD3 at h
  rw [List.getElem?_map] at h
  obtain ⟨k, h1, h2⟩ := Option.map_eq_some_iff.mp h
  obtain ⟨h3, h4⟩ := List.getElem?_zip_eq_some.mp h1
  obtain ⟨h5, h6⟩ := List.getElem?_zip_eq_some.mp h4
  exact ⟨_, _, _, h3, h5, h6, h2.symm⟩
def srZ3 (fa fb fc : ExM) : SrM := fun env S => bnd (fa env S) fun x S1 => bnd (fb env S1) fun y S2 => bnd (fc env S2) fun z S3 => match srcOf x S3, srcOf y S3, srcOf z S3 with
  | some s, some t, some u => if isTup x = false ∧ isTup y = false ∧ isTup z = false then .ok (zipD3 s.1 t.1 u.1, s.2 ++ (t.2 ++ u.2)) S3 else .bad
  | _, _, _ => .bad
theorem Wk.zip3 {μ : Mp} {H : Hp} {a b c : Addr} {xs ys zs : List D} {gs hs js : Gs} (k : ∀ μ2 H2 S2, Le μ H μ2 H2 → Wd G μ2 H2 S2 → gok gs S2 = true → ∃ vs, SqL G.K H2 a vs ∧ Rs G μ2 H2 xs vs) (k' : ∀ μ2 H2 S2, Le μ H μ2 H2 → Wd G μ2 H2 S2 → gok hs S2 = true → ∃ vs, SqL G.K H2 b vs ∧ Rs G μ2 H2 ys vs)
    (k'' : ∀ μ2 H2 S2, Le μ H μ2 H2 → Wd G μ2 H2 S2 → gok js S2 = true → ∃ vs, SqL G.K H2 c vs ∧ Rs G μ2 H2 zs vs) :
    Wk G (Itz3 G.K (min xs.length (min ys.length zs.length)) a b c) (zipD3 xs ys zs) (gs ++ (hs ++ js)) μ H := fun i μ2 H2 S2 l w2 g => by
  obtain ⟨g1, g23⟩ := gok_append g
  obtain ⟨g2, g3⟩ := gok_append g23
  obtain ⟨vs, hv, rv⟩ := k μ2 H2 S2 l w2 g1
  obtain ⟨ws, hw, rw'⟩ := k' μ2 H2 S2 l w2 g2
  obtain ⟨us, hu, ru⟩ := k'' μ2 H2 S2 l w2 g3
  have hlen : (zipD3 xs ys zs).length = min xs.length (min ys.length zs.length) := by simp [zipD3]
  have l1 := rv.length
  have l2 := rw'.length
  have l3 := ru.length
  refine ⟨fun hi => ⟨by omega, vs, ws, us, hv, hw, hu, by omega, by omega, by omega, by omega⟩, fun d hd => ?_⟩
  have hlt := (List.getElem?_eq_some_iff.mp hd).1
  obtain ⟨x, y, z, hx, hy, hz, rfl⟩ := zipD3_get hd
  obtain ⟨v, ev, r1⟩ := rv.get hx
  obtain ⟨u, eu, r2⟩ := rw'.get hy
  obtain ⟨t, et, r3⟩ := ru.get hz
  refine ⟨⟨by omega, vs, ws, us, v, u, t, hv, hw, hu, ev, eu, et⟩, fun z H3 q => ?_⟩
  obtain ⟨T, x', y', z', rfl, hT, rfl, q1, q2, q3⟩ := q
  have e1 : v = x' := Option.some.inj (ev.symm.trans (q1 vs hv))
  have e2 : u = y' := Option.some.inj (eu.symm.trans (q2 ws hw))
  have e3 : t = z' := Option.some.inj (et.symm.trans (q3 us hu))
  subst e1 e2 e3
  exact ⟨Le.laid hT, w2.laid hT, R.fresh w2 hT (.cons r1 (.cons r2 (.one r3)))⟩
theorem di_zip3 {X : Cx} {a b c : Expr} {fa fb fc : ExM} {p pos tpos : Pos} {elts : List Expr} {kk : Nat} (hK : X.K = G.K) (hg : Gl X "zip") (hm : X.mg "zip" = none) (hp : plainE a = true) (hp2 : plainE b = true) (hp3 : plainE c = true) (ha : PE X a (tD G E fa)) (hb : PE X b (tD G E fb)) (hc : PE X c (tD G E fc)) :
    PI X (.Tuple elts kk tpos) (.Call (.Name "zip" p) [a, b, c] [] pos) (tSr G E (srZ3 fa fb fc)) :=
  PI.wk (pi_zip3 hg hm (pa_cons ha (pa_cons hb (pa_cons hc pa_nil (star_plain hp3 _ _)) (star_plain hp2 _ _)) (star_plain hp _ _)) (star_plain hp _ _) (star_any pos _ (es := [b, c]) (by simp [hp2, hp3]))) fun σ H Rr ⟨μ, S, env, w, er, h⟩ => by
    refine tD_go w er (post_bnd.1 h) fun x S1 v H1 μ1 l1 w1 er1 rx h1 => ?_
    refine tD_go w1 er1 (post_ex l1 (post_bnd.1 h1) fun _ _ z => z) fun y S2 u H2 μ2 l2 w2 er2 ry h2 => ?_
    refine tD_go w2 er2 (post_ex (l1.trans l2) (post_bnd.1 h2) fun _ _ z => z) fun z S3 t H3 μ3 l3 w3 er3 rz h3 => ?_
    split at h3
    · rename_i s t u es et eu
      split at h3
      · rename_i hi
        have rx := (l2.trans l3).rx w1 rx
        have ry := l3.rx w2 ry
        have l := (l1.trans l2).trans l3
        rw [hK]
        have nt : ∀ {x : Rv}, isTup x = false → ¬ ∃ ys, x = .val (.tup ys) := fun e z => by rw [isTup_iff.mpr z] at e; cases e
        obtain ⟨a', e1, ⟨vs, h1'⟩, k⟩ := src_ok w3 rx es (nt hi.1)
        obtain ⟨b', e2, ⟨ws, h2'⟩, k'⟩ := src_ok w3 ry et (nt hi.2.1)
        obtain ⟨c', e3, ⟨us, h3'⟩, k''⟩ := src_ok w3 rz eu (nt hi.2.2)
        subst e1 e2 e3
        exact ⟨a', b', c', vs, ws, us, rfl, h1', h2', h3', _, h3 _ H3 μ3 l w3 (Wk.zip3 k k' k'')⟩
      · exact h3.elim
    · exact h3.elim
end Bz

set_option Elab.async false
set_option linter.all false
set_option maxRecDepth 100000
set_option maxHeartbeats 2000000
/-! Bz, min, max and sorted of lists of data. -/
namespace Bz
open PySem PySem.Spec PyProof.Rows L2 PySem.W
/-- which item is the least -/
def leastIx (ds : List PyData) : Nat := argBest (fun i j => dataLt (ds.getD i .none) (ds.getD j .none)) (ds.length - 1)
def greatIx (ds : List PyData) : Nat := argBest (fun i j => dataLt (ds.getD j .none) (ds.getD i .none)) (ds.length - 1)
def notNone : PyData → Bool
  | .none => false
  | _ => true
def allAlikeB (ds : List PyData) : Bool := ds.all fun p => ds.all fun q => alike p q
def bestOk (ds : List PyData) : Bool := decide (0 < ds.length) && allAlikeB ds && ds.all notNone && decide (PyData.depthAll ds ≤ 32)
theorem allAlikeB_ok {ds : List PyData} (h : allAlikeB ds = true) : ∀ x ∈ ds, ∀ y ∈ ds, alike x y = true := fun x hx y hy => List.all_eq_true.mp (List.all_eq_true.mp h x hx) y hy
theorem bestOk_ok {ds : List PyData} (h : bestOk ds = true) : 0 < ds.length ∧ AlikeAll ds ∧ PyData.depthAll ds ≤ 32 := by
  unfold bestOk at h
  rw [Bool.and_eq_true, Bool.and_eq_true, Bool.and_eq_true] at h
  refine ⟨of_decide_eq_true h.1.1.1, ⟨allAlikeB_ok h.1.1.2, fun x hx e => ?_⟩, of_decide_eq_true h.2⟩
  have := List.all_eq_true.mp h.1.2 x hx
  subst e
  exact absurd this Bool.false_ne_true
section
variable {X : Cx}
def rBest (K : PySem.W.Frag) (ix : List PyData → Nat) : List V → Hp → VK → Prop := fun vs H Q => ∃ (a : Addr) (xs : List V) (ds : List PyData), vs = [.ref a] ∧ SqL K H a xs ∧ DpAll K H xs ds ∧ bestOk ds = true ∧ ∀ v, xs[ix ds]? = some v → Q v H
theorem vals_at {xs : List V} {us : List Value} (r : Vals xs us) {i : Nat} {u : Value} (h : us[i]? = some u) : ∃ v, xs[i]? = some v ∧ RelV v u := by
  have hi := (List.getElem?_eq_some_iff.mp h).1
  have hl := r.length
  obtain ⟨v, hv⟩ : ∃ v, xs[i]? = some v := ⟨_, List.getElem?_eq_getElem (by omega)⟩
  obtain ⟨u', hu', r'⟩ := r.get hv
  rw [h] at hu'
  cases hu'
  exact ⟨v, hv, r'⟩
theorem cr_minD (hc : X.calm = true) (hu : X.A.units + 64 < cLine) : CallR X (.builtin "min") (rBest X.K leastIx) := by
  intro pins s σ H vs us Q I r h
  obtain ⟨a, xs, ds, rfl, hs, hd, hk, q⟩ := h
  obtain ⟨its, rv, hl, _⟩ := I.list hs
  rw [Vals.ref1 r]
  obtain ⟨as, hr⟩ := Dp.readsAll I ds xs its hd rv
  obtain ⟨k1, k2, k3⟩ := bestOk_ok hk
  have hr' : ReadsAll s.heap its.toArray.toList ds as := by rw [List.toList_toArray]; exact hr
  have hn : its.toArray.size = ds.length := readsAll_len hr'
  refine call_min_walkH (iter_listW (A := X.A.in1) (I.ok.hd hc) hl.isList fun s₂ e W st hfp hw hk => ?_)
  refine ⟨_, _, _, _, _, _, _, s.heap, _, rfl, W, st, hfp, by omega, hw, hk, cmpIn_lt (A := X.A.in1) hr' k2 (by show X.A.units + 1 + _ < _; omega), fun v s' hP m => ?_⟩
  obtain ⟨h', tk, rfl, hk'⟩ := moved_old e rfl m
  have hP : its[leastIx ds]? = some v := by
    have e1 : its.toArray.size - 1 = ds.length - 1 := by rw [hn]
    rw [e1] at hP
    rw [List.getElem?_toArray] at hP
    exact hP
  obtain ⟨x, hx, rx⟩ := vals_at rv hP
  exact ⟨x, H, I.kept hk', rx, q x hx⟩
theorem cr_maxD (hc : X.calm = true) (hu : X.A.units + 64 < cLine) : CallR X (.builtin "max") (rBest X.K greatIx) := by
  intro pins s σ H vs us Q I r h
  obtain ⟨a, xs, ds, rfl, hs, hd, hk, q⟩ := h
  obtain ⟨its, rv, hl, _⟩ := I.list hs
  rw [Vals.ref1 r]
  obtain ⟨as, hr⟩ := Dp.readsAll I ds xs its hd rv
  obtain ⟨k1, k2, k3⟩ := bestOk_ok hk
  have hr' : ReadsAll s.heap its.toArray.toList ds as := by rw [List.toList_toArray]; exact hr
  have hn : its.toArray.size = ds.length := readsAll_len hr'
  refine call_max_walkH (iter_listW (A := X.A.in1) (I.ok.hd hc) hl.isList fun s₂ e W st hfp hw hk => ?_)
  refine ⟨_, _, _, _, _, _, _, s.heap, _, rfl, W, st, hfp, by omega, hw, hk, cmpIn_gt (A := X.A.in1) hr' k2 (by show X.A.units + 1 + _ < _; omega), fun v s' hP m => ?_⟩
  obtain ⟨h', tk, rfl, hk'⟩ := moved_old e rfl m
  have hP : its[greatIx ds]? = some v := by
    have e1 : its.toArray.size - 1 = ds.length - 1 := by rw [hn]
    rw [e1] at hP
    rw [List.getElem?_toArray] at hP
    exact hP
  obtain ⟨x, hx, rx⟩ := vals_at rv hP
  exact ⟨x, H, I.kept hk', rx, q x hx⟩
/-! ### sorted -/
def tupSome : PyData → Bool
  | .tuple (_ :: _) => true
  | _ => false
def notTup : PyData → Bool
  | .none => false
  | .tuple _ => false
  | _ => true
def sortOk (ds : List PyData) : Bool := allAlikeB ds && (ds.all tupSome || ds.all notTup) && decide (PyData.depthAll ds ≤ 32)
theorem sortOk_ok {ds : List PyData} (h : sortOk ds = true) : AllAlike ds ∧ Sortable ds ∧ PyData.depthAll ds ≤ 32 := by
  unfold sortOk at h
  rw [Bool.and_eq_true, Bool.and_eq_true, Bool.or_eq_true] at h
  refine ⟨fun d hd d' hd' => allAlikeB_ok h.1.1 d hd d' hd', ?_, of_decide_eq_true h.2⟩
  rcases h.1.2 with q | q
  · refine .inl fun d hd => ?_
    have := List.all_eq_true.mp q d hd
    unfold tupSome at this
    split at this
    · exact ⟨_, _, rfl⟩
    · cases this
  · refine .inr fun d hd => ?_
    have := List.all_eq_true.mp q d hd
    cases d <;> first | exact absurd this Bool.false_ne_true | exact ⟨fun e => (nomatch e), fun xs e => nomatch e⟩
theorem depth_le {d : PyData} : ∀ {ds : List PyData}, d ∈ ds → d.depth ≤ PyData.depthAll ds
  | e :: ds, h => by
    rw [PyData.depthAll]
    rcases List.mem_cons.mp h with rfl | h
    · exact Nat.le_max_left _ _
    · exact Nat.le_trans (depth_le h) (Nat.le_max_right _ _)
/-- the items in order, by their data -/
def sortBy {α : Type} (xs : List α) (ds : List PyData) : List α := ((xs.zip ds).mergeSort (dataLe false Prod.snd)).map Prod.fst
def rSortD (K : PySem.W.Frag) : List V → Hp → VK → Prop := fun vs H Q => ∃ (a : Addr) (xs : List V) (ds : List PyData), vs = [.ref a] ∧ SqL K H a xs ∧ DpAll K H xs ds ∧ sortOk ds = true ∧ ∀ p, H p = none → Q (.ref p) (upd H p (.lst (sortBy xs ds)))
theorem dpAll_len {K : PySem.W.Frag} {H : Hp} : ∀ {xs : List V} {ds : List PyData}, DpAll K H xs ds → xs.length = ds.length
  | _, _, .nil => rfl
  | _, _, .cons _ t => by rw [List.length_cons, List.length_cons, dpAll_len t]
theorem each_zip {R : Value → V × PyData → Prop} : ∀ {us : List Value} {xs : List V} {ds : List PyData}, us.length = xs.length → xs.length = ds.length → (∀ (i : Nat) (u : Value) (x : V) (d : PyData), us[i]? = some u → xs[i]? = some x → ds[i]? = some d → R u (x, d)) → EachIs R us (xs.zip ds)
  | [], [], [], _, _, _ => .nil
  | u :: us, x :: xs, d :: ds, h1, h2, h => .cons (h 0 u x d rfl rfl rfl) (each_zip (Nat.succ.inj h1) (Nat.succ.inj h2) fun i u x d a b c => h (i + 1) u x d a b c)
theorem vals_each : ∀ {us : List Value} {bs : List (V × PyData)}, EachIs (fun u (b : V × PyData) => RelV b.1 u) us bs → Vals (bs.map Prod.fst) us
  | _, _, .nil => .nil
  | _, _, .cons h t => .cons h (vals_each t)
theorem readsAll_get {h : Heap} : ∀ {us : List Value} {ds : List PyData} {as : List Addr}, ReadsAll h us ds as → ∀ (i : Nat) (u : Value) (d : PyData), us[i]? = some u → ds[i]? = some d → ∃ as, Reads h u d as
  | _, _, _, .nil, i, u, d, h1, _ => by simp at h1
  | _, _, _, .cons r rs, 0, u, d, h1, h2 => by cases h1; cases h2; exact ⟨_, r⟩
  | _, _, _, .cons r rs, i + 1, u, d, h1, h2 => readsAll_get rs i u d (by simpa using h1) (by simpa using h2)
theorem cr_sortedD (hu : X.A.units + 64 < cLine) : CallR X (.builtin "sorted") (rSortD X.K) := by
  intro pins s σ H vs us Q I r h
  obtain ⟨a, xs, ds, rfl, hs, hd, hk, q⟩ := h
  obtain ⟨its, rv, hl, hz⟩ := I.list hs
  rw [Vals.ref1 r]
  obtain ⟨as, hr⟩ := Dp.readsAll I ds xs its hd rv
  obtain ⟨k1, k2, k3⟩ := sortOk_ok hk
  have hl1 := rv.length
  have hl2 := dpAll_len hd
  have hsnd : (xs.zip ds).map Prod.snd = ds := by rw [← List.unzip_snd, List.unzip_zip_right (by omega)]
  have hlen : (xs.zip ds).length = xs.length := by rw [List.length_zip]; omega
  have e1 : EachIs (fun u (b : V × PyData) => RelV b.1 u) its (xs.zip ds) := each_zip (by omega) hl2 fun i u x d a b c => by
    obtain ⟨u', hu', r'⟩ := rv.get b
    rw [a] at hu'
    cases hu'
    exact r'
  have e2 : EachIs (fun u (b : V × PyData) => ∃ as, Reads s.heap u b.2 as) its (xs.zip ds) := each_zip (by omega) hl2 fun i u x d a b c => readsAll_get hr i u d a c
  refine sorted_data (enc := Prod.snd) hl.isList e1 e2 (by rw [hsnd]; exact k1) (by rw [hsnd]; exact k2) (by rw [hlen]; exact hz) (fun b hb => ?_) fun out ho hout => ?_
  · have : b.2 ∈ ds := by rw [← hsnd]; exact List.mem_map_of_mem hb
    have := depth_le this
    omega
  · obtain ⟨ep, he'⟩ := PyProof.Rows.sortedAll_at s.heap its out.toArray
    have hv := vals_each hout
    have hlen' : (sortBy xs ds).length ≤ sizeLine := by
      unfold sortBy
      rw [List.length_map, (List.mergeSort_perm _ _).length_eq, hlen]
      exact hz
    exact ⟨.ref _, upd H (s.heap.objs.size + 1) (.lst (sortBy xs ds)), I.laid (t' := s.toks) (fun _ _ => PyProof.Rows.sortedAll_old) (Nat.le_succ _) ⟨hlen', out, ep, hv, he'⟩, rfl, q _ (I.hok.fresh (Nat.le_succ _))⟩
end
/-! ### over the store -/
variable {G : Gm}
theorem Rs.of_all {α : Type} {μ : Mp} {H : Hp} {f : α → D} {g : α → V} : ∀ {ts : List α}, (∀ t ∈ ts, R G μ H (f t) (g t)) → Rs G μ H (ts.map f) (ts.map g)
  | [], _ => .nil
  | t :: ts, h => .cons (h t List.mem_cons_self) (Rs.of_all fun t' ht => h t' (List.mem_cons_of_mem _ ht))
theorem Rs.sortBy {μ : Mp} {H : Hp} {xs : List D} {vs : List V} {ds : List PyData} (r : Rs G μ H xs vs) (hl : xs.length = ds.length) : Rs G μ H (sortBy xs ds) (sortBy vs ds) := by
  have hl1 := r.length
  have key : ∀ {xs : List D} {vs : List V} {ds : List PyData}, Rs G μ H xs vs → xs.length = ds.length → ∃ ts : List (D × V × PyData), xs.zip ds = ts.map (fun t => (t.1, t.2.2)) ∧ vs.zip ds = ts.map (fun t => (t.2.1, t.2.2)) ∧ ∀ t ∈ ts, R G μ H t.1 t.2.1 := by
    intro xs
    induction xs with
    | nil =>
      intro vs ds r hl
      cases r
      exact ⟨[], rfl, rfl, fun t ht => nomatch ht⟩
    | cons x xs ih =>
      intro vs ds r hl
      cases ds with
      | nil => cases hl
      | cons d ds =>
        cases r with
        | @cons _ v _ vs r1 r2 =>
          obtain ⟨ts, h1, h2, h3⟩ := ih r2 (Nat.succ.inj hl)
          refine ⟨(x, v, d) :: ts, by rw [List.zip_cons_cons, h1]; rfl, by rw [List.zip_cons_cons, h2]; rfl, fun t ht => ?_⟩
          rcases List.mem_cons.mp ht with rfl | ht
          · exact r1
          · exact h3 t ht
  obtain ⟨ts, h1, h2, h3⟩ := key r hl
  unfold Bz.sortBy
  have m1 : (ts.map fun t => (t.1, t.2.2)).mergeSort (dataLe false Prod.snd) = (ts.mergeSort (dataLe false fun t => t.2.2)).map (fun t => (t.1, t.2.2)) := (List.map_mergeSort (f := fun t : D × V × PyData => (t.1, t.2.2)) fun a _ b _ => rfl).symm
  have m2 : (ts.map fun t => (t.2.1, t.2.2)).mergeSort (dataLe false Prod.snd) = (ts.mergeSort (dataLe false fun t => t.2.2)).map (fun t => (t.2.1, t.2.2)) := (List.map_mergeSort (f := fun t : D × V × PyData => (t.2.1, t.2.2)) fun a _ b _ => rfl).symm
  rw [h1, h2, m1, m2, List.map_map, List.map_map]
  exact Rs.of_all fun t ht => h3 t (List.mem_mergeSort.mp ht)
/-- the least, the greatest item of a list of data -/
def best1 (ix : List PyData → Nat) (x : Rv) (S : Sto) : Res Rv := match lrdOf x S with
  | some xs => (match rfds (lkS S 12) xs with
    | some ds => if bestOk ds = true then (match xs[ix ds]? with
      | some d => .ok (.val d) S
      | none => .bad) else .bad
    | none => .bad)
  | none => .bad
def sorted1 (x : Rv) (S : Sto) : Res Rv := match lrdOf x S with
  | some xs => (match rfds (lkS S 12) xs with
    | some ds => if sortOk ds = true then .ok (.new (sortBy xs ds)) S else .bad
    | none => .bad)
  | none => .bad
theorem ok_best1 {K : PySem.W.Frag} (hK : K = G.K) {ix : List PyData → Nat} : OkB1 G (rBest K ix) (best1 ix) := by
  intro x S v μ H H0 Q QE w rx q
  unfold best1 at q
  split at q
  · rename_i xs e
    split at q
    · rename_i ds ed
      split at q
      · rename_i hk
        split at q
        · rename_i d eq
          obtain ⟨a, vs, e3, hs, rs⟩ := lrdOf_ok w rx e
          have hd := rfds_ok (lkS_ok w 12) _ _ _ rs ed
          subst hK
          refine ⟨a, vs, ds, by rw [e3], hs, hd, hk, fun u hu => ?_⟩
          obtain ⟨v', hv, r⟩ := rs.get eq
          rw [hu] at hv
          cases hv
          exact q _ H μ Le.refl w r
        · exact q.elim
      · exact q.elim
    · exact q.elim
  · exact q.elim
theorem rfds_len {lk : Nat → Option PyData} : ∀ {xs : List D} {ds : List PyData}, rfds lk xs = some ds → xs.length = ds.length
  | [], ds, h => by cases h; rfl
  | x :: xs, ds, h => by
    have h : (match rfd lk x, rfds lk xs with
      | some d, some ds => some (d :: ds)
      | _, _ => none) = some ds := h
    split at h
    · rename_i e1 e2
      cases h
      rw [List.length_cons, List.length_cons, rfds_len e2]
    · cases h
theorem ok_sorted1 {K : PySem.W.Frag} (hK : K = G.K) : OkB1 G (rSortD K) sorted1 := by
  intro x S v μ H H0 Q QE w rx q
  unfold sorted1 at q
  split at q
  · rename_i xs e
    split at q
    · rename_i ds ed
      split at q
      · rename_i hk
        obtain ⟨a, vs, e3, hs, rs⟩ := lrdOf_ok w rx e
        have hd := rfds_ok (lkS_ok w 12) _ _ _ rs ed
        subst hK
        refine ⟨a, vs, ds, by rw [e3], hs, hd, hk, fun p hp => ?_⟩
        exact q _ _ μ (Le.laid hp) (w.laid hp) (Rx.fresh w hp hp (rs.sortBy (rfds_len ed)))
      · exact q.elim
    · exact q.elim
  · exact q.elim
def min1V := best1 leastIx
def max1V := best1 greatIx
end Bz

set_option Elab.async false
set_option linter.all false
set_option maxRecDepth 100000
set_option maxHeartbeats 4000000
/-! Bz, ninth part: from the syntax to functions. -/
namespace Bz
open PySem PySem.Spec PyProof.Rows L2

/-! ### what the syntax says of stores -/
def swNames (env : PySem.Env) (ts : List Expr) : List Str := ts.filterMap fun
    | .Name id pos => if env.kindOf id == some .local && pos.line == (ts.head?.map (·.pos.line)).getD 0 then some id else none
    | _ => none
theorem sw_eq (ts vs : List Expr) (kt k2 : Nat) (pt pt2 : Pos) (env : PySem.Env) : swappedStores [.Tuple ts kt pt] (.Tuple vs k2 pt2) env =
    (if (!(ts.length == 2 || ts.length == 3) || vs.length != ts.length || env.blockKind != .function) = true then pure none
     else if (vs.any fun | .Starred .. => true | _ => false) = true then pure none
     else if ((swNames env ts).length != ts.length || (swNames env ts).eraseDups.length != (swNames env ts).length) = true then pure none
     else if vs.all (foldedForSure 8) = true then pure none
     else if vs.all (constantsAlone 8) = true then (do unsupported "assign.tuple-of-constant-expressions:order-of-the-stores"; pure (some (swNames env ts)))
     else pure (some (swNames env ts))) := by
  unfold swappedStores
  rfl
theorem sw_other {t v : Expr} (h : ¬ ∃ vs k p, v = .Tuple vs k p) (env : PySem.Env) : swappedStores [t] v env = pure none := by
  unfold swappedStores
  cases v <;> first | (cases t <;> rfl) | exact absurd ⟨_, _, _, rfl⟩ h
theorem sw_other2 {t v : Expr} (h : ¬ ∃ vs k p, t = .Tuple vs k p) (h2 : ¬ ∃ vs p, t = .List vs p) (env : PySem.Env) : swappedStores [t] v env = pure none := by
  unfold swappedStores
  cases t <;> first | (cases v <;> rfl) | exact absurd ⟨_, _, _, rfl⟩ h | exact absurd ⟨_, _, rfl⟩ h2
def isComp : Expr → Bool
  | .ListComp .. => true
  | .SetComp .. => true
  | .DictComp .. => true
  | _ => false
theorem swaps_plain {e : Expr} (h : isComp e = false) (t : Option Expr) (l : Nat) (env : PySem.Env) : swapsWith e t l env = pure false := by
  cases e <;> first | rfl | (simp [isComp] at h)
def notSet : Expr → Bool
  | .Set .. => false
  | _ => true
theorem folded_plain {e : Expr} (h : notSet e = true) (env : PySem.Env) (x : Value) : foldedSetIterable e env x = pure x := by
  cases e <;> first | rfl | (simp [notSet] at h)
/-- whether the stores of names go from the right: some (some ..) yes, some none no -/
def swCalc (sc : Scope) (ts vs : List Expr) : Option (Option (List Str)) :=
  let names := ts.filterMap fun
    | .Name id pos => if sc.names.lookup id == some .local && pos.line == (ts.head?.map (·.pos.line)).getD 0 then some id else none
    | _ => none
  if (!(ts.length == 2 || ts.length == 3) || vs.length != ts.length) = true then some none
  else if (vs.any fun | .Starred .. => true | _ => false) = true then some none
  else if (names.length != ts.length || names.eraseDups.length != names.length) = true then some none
  else if vs.all (foldedForSure 8) = true then some none
  else if vs.all (constantsAlone 8) = true then none
  else some (some names)
theorem swCalc_ok {sc : Scope} {ts vs : List Expr} {o : Option (List Str)} (h : swCalc sc ts vs = some o) (kt k2 : Nat) (pt pt2 : Pos) {env : PySem.Env} (hs : env.scope = sc) (hk : sc.kind = .function) : swappedStores [.Tuple ts kt pt] (.Tuple vs k2 pt2) env = pure o := by
  have hb : env.blockKind = .function := by unfold Env.blockKind; rw [hs, hk]; rfl
  have hn : swNames env ts = ts.filterMap fun
    | .Name id pos => if sc.names.lookup id == some .local && pos.line == (ts.head?.map (·.pos.line)).getD 0 then some id else none
    | _ => none := by
    unfold swNames
    subst hs
    rfl
  have hb2 : (env.blockKind != ScopeKind.function) = false := by rw [hb]; rfl
  rw [sw_eq, hn, hb2, Bool.or_false]
  unfold swCalc at h
  simp only at h
  split at h
  · rename_i c
    cases h
    rw [if_pos c]
  · rename_i c
    rw [if_neg c]
    split at h
    · rename_i c
      cases h
      rw [if_pos c]
    · rename_i c
      rw [if_neg c]
      split at h
      · rename_i c
        cases h
        rw [if_pos c]
      · rename_i c
        rw [if_neg c]
        split at h
        · rename_i c
          cases h
          rw [if_pos c]
        · rename_i c
          rw [if_neg c]
          split at h
          · cases h
          · rename_i c
            cases h
            rw [if_neg c]

/-! ### the program's defs, as they are called -/
structure Cc where
  N : List Str
  fns : List Str
  F : Str → FnM
  np : Str → Nat
  gl : List (Str × Int)
def ixOf (N : List Str) (x : Str) : Option Nat := N.findIdx? fun y => decide (y = x)
theorem ixOf_ok {N : List Str} {x : Str} {i : Nat} (h : ixOf N x = some i) : N[i]? = some x := by
  unfold ixOf at h
  obtain ⟨h1, h2, _⟩ := List.findIdx?_eq_some_iff_getElem.mp h
  have := of_decide_eq_true h2
  rw [List.getElem?_eq_getElem h1, this]
def bltNames : List Str := ["len", "abs", "max", "min", "sum", "all", "list", "tuple", "isinstance", "int", "bool", "str", "dict", "range", "zip", "sorted", "set", "enumerate"]
structure Cok (C : Cc) (G : Gm) (E : XK) (sc : Scope) (fq : Str → Bool) (X : Cx) : Prop where
  hN : X.N = C.N
  nd : C.N.Nodup
  hsc : X.env.scope = sc
  kind : sc.kind = .function
  hK : X.K = G.K
  hmg : X.mg = G.mg
  calm : X.calm = true
  fq : ∀ x, fq x = true → X.fn x = true
  own : PassesOwn (model X.prog X.w) X.A X.env X.xe
  units : X.A.units + 64 < cLine
  fns : ∀ x ∈ C.fns, ∃ (CX : CXT) (k : Nat) (f : Addr) (fd : FuncData) (ps : List Str), FnOk X.prog X.w X.K X.mg X.base CX k f fd ps (spF G (C.np x) (C.F x)) ∧ Room k X.A ∧ X.mg x = some (.ref f) ∧ PySem.W.keepIn X.K (.ref f) = true ∧ Binds X.K fd ps [] ∧ Passes CX X E ∧
    (∀ outer H s e s', CX outer H s X0 e s' → False) ∧ ∀ ds S, ds.length ≠ C.np x → C.F x ds S = .bad
  blt : ∀ x ∈ bltNames, X.mg x = none
  glb : ∀ x i, C.gl.lookup x = some i → ∃ t, X.mg x = some (.int i t)
theorem Cok.gl {C : Cc} {G : Gm} {E : XK} {sc : Scope} {fq : Str → Bool} {X : Cx} (c : Cok C G E sc fq X) {x : Str} (h : sc.names.lookup x = some .globalImplicit) : Gl X x := by
  unfold Gl Env.kindOf
  rw [c.hsc]
  exact h
/-- a name of the def that is read -/
def visOf (sc : Scope) (x : Str) : Bool := match sc.names.lookup x with
  | some .local => true
  | some .cell => true
  | some .free => true
  | _ => false
theorem visOf_ok {sc : Scope} {x : Str} (h : visOf sc x = true) : Vis sc x := by
  unfold visOf at h
  split at h <;> first | exact .inl (by assumption) | exact .inr (.inl (by assumption)) | exact .inr (.inr (by assumption)) | cases h
def glOf (sc : Scope) (x : Str) : Bool := decide (sc.names.lookup x = some .globalImplicit)
/-- a name of the def that is stored -/
def locOf (sc : Scope) (fq : Str → Bool) (x : Str) : Bool := match sc.names.lookup x with
  | some .local => true
  | some .cell => fq x
  | _ => false
theorem locOf_ok {C : Cc} {G : Gm} {E : XK} {sc : Scope} {fq : Str → Bool} {X : Cx} (c : Cok C G E sc fq X) {x : Str} (h : locOf sc fq x = true) : Loc X.env.scope x ∧ (X.fn x = true ∨ X.env.scope.names.lookup x = some .local) := by
  rw [c.hsc]
  unfold locOf at h
  split at h
  · exact ⟨.inl (by assumption), .inr (by assumption)⟩
  · exact ⟨.inr (by assumption), .inl (c.fq x h)⟩
  · cases h

/-! ### operators -/
def opB : Operator → Option (Rv → Rv → Sto → Res Rv)
  | .Add => some addV
  | .Sub => some subV
  | .Mult => some mulV
  | .FloorDiv => some divV
  | .Mod => some modV
  | .Pow => some powV
  | _ => none
theorem opB_ok {G : Gm} {E : XK} {X : Cx} (hK : X.K = G.K) {op : Operator} {g : Rv → Rv → Sto → Res Rv} (h : opB op = some g) : ∃ r, OpR X (binaryOp op) r ∧ OkOp G E r g := by
  cases op <;> cases h
  · exact ok_add hK
  · exact ok_sub
  · exact ok_mul
  · exact ok_mod
  · exact ok_pow
  · exact ok_div
def opC : CmpOp → (Rv → Rv → Sto → Res Rv)
  | .Eq => eqV'
  | .NotEq => neV'
  | .Lt => ltV
  | .LtE => leV
  | .Gt => gtV
  | .GtE => geV
  | .Is => isV'
  | .IsNot => isNotV'
  | .In => inV'
  | .NotIn => notInV'
theorem opC_ok {G : Gm} {E : XK} {X : Cx} (hK : X.K = G.K) (hu : X.A.units + 64 < cLine) (op : CmpOp) : ∃ r, OpR X (compareOp op) r ∧ OkOp G E r (opC op) := by
  cases op
  · exact ok_eq hK hu
  · exact ok_ne hK hu
  · exact ok_lt hK hu
  · exact ok_le hK hu
  · exact ok_gt hK hu
  · exact ok_ge hK hu
  · exact ok_is
  · exact ok_isnot
  · exact ok_in hK hu
  · exact ok_notin hK hu
def isSet : Expr → Bool
  | .Set .. => true
  | _ => false
theorem marks_plain {op : CmpOp} {b : Expr} (h : isSet b = false) : behindInMarks op b = false := by
  cases b <;> first | rfl | (simp [isSet] at h)

/-! ### built-ins -/
def b1s : List (Str × (Rv → Sto → Res Rv)) := [("len", lenV), ("abs", absI), ("sum", sumV), ("all", allV), ("list", listV), ("tuple", tupleV), ("min", min1V), ("max", max1V), ("sorted", sorted1)]
def b2s : List (Str × (Rv → Rv → Sto → Res Rv)) := [("max", maxV), ("min", minV)]
def tys : List (Str × Ty) := [("int", .int), ("bool", .bool), ("str", .str), ("tuple", .tuple), ("list", .list), ("dict", .dict)]

structure Pk where
  E : Expr → Option ExM
  T : Expr → Option TsM
def Pk.none : Pk := ⟨fun _ => Option.none, fun _ => Option.none⟩

section
variable (C : Cc) (P : Scope → Pk) (sc : Scope)
/-- arguments, items -/
def cArgs : List Expr → Option ArM
  | [] => some aNil
  | e :: es => if plainE e = true then (match (P sc).E e, cArgs es with
      | some f, some g => some (aCons f g)
      | _, _ => none) else none
def cAnd : List Expr → Option ExM
  | [] => none
  | [a] => (P sc).E a
  | a :: b :: rest => match (P sc).E a, cAnd (b :: rest) with
    | some f, some g => some (eAnd f g)
    | _, _ => none
def cOr : List Expr → Option ExM
  | [] => none
  | [a] => (P sc).E a
  | a :: b :: rest => match (P sc).E a, cOr (b :: rest) with
    | some f, some g => some (eOr f g)
    | _, _ => none
def cAndT : List Expr → Option TsM
  | [] => none
  | [a] => (P sc).T a
  | a :: b :: rest => match (P sc).T a, cAndT (b :: rest) with
    | some f, some g => some (tsAnd f g)
    | _, _ => none
def cOrT : List Expr → Option TsM
  | [] => none
  | [a] => (P sc).T a
  | a :: b :: rest => match (P sc).T a, cOrT (b :: rest) with
    | some f, some g => some (tsOr f g)
    | _, _ => none
def cPart : Option Expr → Option (Env → Sto → Res (Option Int))
  | none => some ptNo
  | some e => ((P sc).E e).map ptI
/-- what is walked; tt: the target is a tuple -/
def cSrc (tt : Bool) (e : Expr) : Option SrM := match e with
  | .Call (.Name x _) [a] [] _ => if x = ("range" : Str) ∧ glOf sc x = true ∧ plainE a = true then ((P sc).E a).map srR1 else ((P sc).E e).map srA
  | .Call (.Name x _) [a, b] [] _ => if x = ("range" : Str) ∧ glOf sc x = true ∧ plainE a = true ∧ plainE b = true then (match (P sc).E a, (P sc).E b with
        | some f, some g => some (srR2 f g)
        | _, _ => none)
      else if x = ("zip" : Str) ∧ glOf sc x = true ∧ plainE a = true ∧ plainE b = true ∧ tt = true then (match (P sc).E a, (P sc).E b with
        | some f, some g => some (srZ f g)
        | _, _ => none)
      else ((P sc).E e).map srA
  | .Call (.Name x _) [a, b, d] [] _ => if x = ("zip" : Str) ∧ glOf sc x = true ∧ plainE a = true ∧ plainE b = true ∧ plainE d = true ∧ tt = true then (match (P sc).E a, (P sc).E b, (P sc).E d with
        | some f, some g, some h => some (srZ3 f g h)
        | _, _, _ => none)
      else ((P sc).E e).map srA
  | e => ((P sc).E e).map srA
/-- targets of names -/
def cTgN (fq : Str → Bool) : Expr → Option (List Nat × TgM)
  | .Name x _ => if locOf sc fq x = true then (ixOf C.N x).map fun i => ([i], gNm i) else none
  | _ => none
def cTgsN (fq : Str → Bool) : List Expr → Option (List Nat × TgsM)
  | [] => some ([], gsNil)
  | e :: es => match cTgN C sc fq e, cTgsN fq es with
    | some (ts, f), some (us, g) => some (ts ++ us, gsCons f g)
    | _, _ => none
def cTg1 (fq : Str → Bool) : Expr → Option (List Nat × TgM)
  | .Tuple es _ _ => (cTgsN C sc fq es).map fun p => (p.1, gTp es.length p.2)
  | e => cTgN C sc fq e
def cTgs1 (fq : Str → Bool) : List Expr → Option (List Nat × TgsM)
  | [] => some ([], gsNil)
  | e :: es => match cTg1 C sc fq e, cTgs1 fq es with
    | some (ts, f), some (us, g) => some (ts ++ us, gsCons f g)
    | _, _ => none
def cTg (fq : Str → Bool) : Expr → Option (List Nat × TgM)
  | .Tuple es _ _ => (cTgs1 C sc fq es).map fun p => (p.1, gTp es.length p.2)
  | e => cTgN C sc fq e
def isTupE : Expr → Bool
  | .Tuple .. => true
  | _ => false
def ownOf (scope : Scope) : List (Str × Nat) := scope.names.filterMap fun (n, k) => if k = .local ∨ k = .cell then (ixOf C.N n).map fun i => (n, i) else none
def cIfs : List Expr → Option TsM
  | [] => some tsYes
  | [c] => (P sc).T c
  | _ => none
def cComp (elt tg iter : Expr) (ifs : List Expr) (scope : Scope) : Option ExM :=
  if blkC C.N sc scope (ownOf C scope) = true ∧ notSet iter = true then
    match cSrc P sc (isTupE tg) iter, cTg C (relS scope sc) (fun x => scope.names.lookup x == some .cell) tg, cIfs P (relS scope sc) ifs, (P (relS scope sc)).E elt with
    | some src, some (ts, g), some t, some f => if (ts.all fun i => decide (i ∈ (ownOf C scope).map (·.2))) = true then some (eLc ((ownOf C scope).map (·.2)) src g t f) else none
    | _, _, _, _ => none
  else none
def cCall1 (x : Str) (a : Expr) : Option ExM := if plainE a = true ∧ glOf sc x = true then (match b1s.lookup x, (P sc).E a with
    | some g, some f => some (eUn g f)
    | _, _ => none) else none
def cCall2 (x : Str) (a b : Expr) : Option ExM := if plainE a = true ∧ plainE b = true ∧ glOf sc x = true then
    (if x = ("isinstance" : Str) then (match b with
      | .Name n _ => if glOf sc n = true then (match tys.lookup n, (P sc).E a with
        | some T, some f => some (eUn (isiV T) f)
        | _, _ => none) else none
      | .Tuple [.Name n _, .Name m _] _ _ => if glOf sc n = true ∧ glOf sc m = true then (match tys.lookup n, tys.lookup m, (P sc).E a with
        | some T, some U, some f => some (eUn (isiV2 T U) f)
        | _, _, _ => none) else none
      | _ => none)
    else (match b2s.lookup x, (P sc).E a, (P sc).E b with
    | some g, some f, some f2 => some (eBin g f f2)
    | _, _, _ => none)) else none
def cMeth1 (o : Expr) (m : Str) (a : Expr) : Option ExM := if plainE a = true ∧ baseOk o = true then (match (P sc).E o, (P sc).E a with
    | some f, some g => if m = ("append" : Str) then some (eM1 .list (fun x d S => mAppend x [d] S) f g) else if m = ("pop" : Str) then some (eM1 .list (fun x d S => mPopAt x [d] S) f g) else none
    | _, _ => none) else none
def cMeth2 (o : Expr) (m : Str) (a b : Expr) : Option ExM := if plainE a = true ∧ plainE b = true ∧ baseOk o = true then (match (P sc).E o, (P sc).E a, (P sc).E b with
    | some f, some g, some h => if m = ("insert" : Str) then some (eM2 .list (fun x d e S => mInsert x [d, e] S) f g h) else none
    | _, _, _ => none) else none
def stepE (e : Expr) : Option ExM := match e with
  | .Constant (.int i) _ _ => some (eC (.int i))
  | .Constant (.bool i) _ _ => some (eC (.bl i))
  | .Constant (.str i) _ _ => some (eC (.str i))
  | .Constant .none _ _ => some (eC .non)
  | .Name x _ => if visOf sc x = true ∧ (x == ("__debug__" : Str)) = false ∧ (x == ("__classdict__" : Str)) = false then (ixOf C.N x).map eNm else if glOf sc x = true ∧ (x == ("__debug__" : Str)) = false then (C.gl.lookup x).map (fun i => eC (.int i)) else none
  | .BinOp a op b _ => match opB op, (P sc).E a, (P sc).E b with
    | some g, some f, some f2 => some (eBin g f f2)
    | _, _, _ => none
  | .Compare a [op] [b] _ => if isSet b = false then (match (P sc).E a, (P sc).E b with
    | some f, some f2 => some (eBin (opC op) f f2)
    | _, _ => none) else none
  | .Compare a [op, op2] [b, c] _ => if isSet c = false then (match (P sc).E a, (P sc).E b, (P sc).E c with
    | some f, some f2, some f3 => some (eChain (opC op) (opC op2) f f2 f3)
    | _, _, _ => none) else none
  | .BoolOp .And es _ => cAnd P sc es
  | .BoolOp .Or es _ => cOr P sc es
  | .UnaryOp .Not a _ => ((P sc).E a).map eNot
  | .UnaryOp .USub a _ => ((P sc).E a).map (eUn (fun x S => match x with
    | .val (.int i) => .ok (.val (.int (-i))) S
    | _ => .bad))
  | .IfExp c a b _ => match (P sc).T c, (P sc).E a, (P sc).E b with
    | some t, some f, some f2 => some (eIf t f f2)
    | _, _, _ => none
  | .Tuple es _ _ => (cArgs P sc es).map eTup
  | .List es _ => (cArgs P sc es).map eLst
  | .Subscript a (.Slice none none (some (.UnaryOp .USub (.Constant (.int 1) _ _) _)) _) _ => ((P sc).E a).map (eUn revV)
  | .Subscript a (.Slice lo hi none _) _ => match (P sc).E a, cPart P sc lo, cPart P sc hi with
    | some f, some f2, some f3 => some (eSl f f2 f3)
    | _, _, _ => none
  | .Subscript a b _ => if plainE b = true then (match (P sc).E a, (P sc).E b with
    | some f, some f2 => some (eBin ixV f f2)
    | _, _ => none) else none
  | .Call (.Name x _) (e :: es) [] _ => if x ∈ C.fns then (if glOf sc x = true ∧ (e :: es).all plainE = true ∧ (x == ("__debug__" : Str)) = false then (cArgs P sc (e :: es)).map (eCall (C.F x)) else none)
    else (match es with
      | [] => cCall1 P sc x e
      | [b] => cCall2 P sc x e b
      | _ => none)
  | .Call (.Attribute o m apos) [a] [] cpos => if (apos.endLine == cpos.line) = true then cMeth1 P sc o m a else none
  | .Call (.Attribute o m apos) [a, b] [] cpos => if (apos.endLine == cpos.line) = true then cMeth2 P sc o m a b else none
  | .ListComp elt [⟨tg, iter, ifs, 0⟩] scope _ => cComp C P sc elt tg iter ifs scope
  | _ => none
def stepT (e : Expr) : Option TsM := match e with
  | .Compare a [op] [b] _ => if isSet b = false then (match (P sc).E a, (P sc).E b with
    | some f, some f2 => some (asB (eBin (opC op) f f2))
    | _, _ => none) else none
  | .Compare a [op, op2] [b, c] _ => if isSet c = false then (match (P sc).E a, (P sc).E b, (P sc).E c with
    | some f, some f2, some f3 => some (asB (eChain (opC op) (opC op2) f f2 f3))
    | _, _, _ => none) else none
  | .BoolOp .And es _ => cAndT P sc es
  | .BoolOp .Or es _ => cOrT P sc es
  | .UnaryOp .Not a _ => ((P sc).T a).map tsNot
  | e => if testPlain e = true then ((P sc).E e).map tru else none
end
def cP (C : Cc) : Nat → Scope → Pk
  | 0 => fun _ => Pk.none
  | n + 1 => fun sc => ⟨stepE C (cP C n) sc, stepT (cP C n) sc⟩
end Bz

set_option Elab.async false
set_option linter.all false
set_option maxRecDepth 100000
set_option maxHeartbeats 4000000
/-! Bz, tenth part: the functions that the syntax gives are what the model does: expressions. -/
namespace Bz
open PySem PySem.Spec PyProof.Rows L2
def PkOk (C : Cc) (G : Gm) (P : Scope → Pk) : Prop := ∀ (E : XK) (sc : Scope) (fq : Str → Bool) (X : Cx), Cok C G E sc fq X →
  (∀ e f, (P sc).E e = some f → PE X e (tD G E f)) ∧ (∀ e t, (P sc).T e = some t → PT X e (tTs G E t))
section
variable {C : Cc} {G : Gm} {E : XK} {sc : Scope} {fq : Str → Bool} {X : Cx} {P : Scope → Pk}
theorem Cok.blk (c : Cok C G E sc fq X) {scope : Scope} (hk : scope.kind = .function) (s : Shared) (H : Hp) (Cl : Addr) (cl : List (Str × Addr)) (fp : List Addr) :
    Cok C G X0 (relS scope sc) (fun x => scope.names.lookup x == some .cell) (X.blk s H scope (compEnvC scope cl Cl X.env) fp) where
  hN := c.hN
  nd := c.nd
  hsc := by show relS scope X.env.scope = _; rw [c.hsc]
  kind := hk
  hK := c.hK
  hmg := c.hmg
  calm := c.calm
  fq := fun x h => h
  own := PassesOwn.never
  units := c.units
  fns := fun x hx => by
    obtain ⟨CX, k, f, fd, ps, F, hr, hm, hkp, hb, hp, hno, har⟩ := c.fns x hx
    exact ⟨CX, k, f, fd, ps, F, hr, hm, hkp, hb, fun pins σ H s e s' I q => hno _ _ _ _ _ q, hno, har⟩
  blt := c.blt
  glb := c.glb
variable (ok : PkOk C G P) (c : Cok C G E sc fq X)
include ok c
theorem okE {e : Expr} {f : ExM} (h : (P sc).E e = some f) : PE X e (tD G E f) := (ok E sc fq X c).1 e f h
theorem okT {e : Expr} {f : TsM} (h : (P sc).T e = some f) : PT X e (tTs G E f) := (ok E sc fq X c).2 e f h
theorem cArgs_ok : ∀ {es : List Expr} {f : ArM}, cArgs P sc es = some f → PA X es (tAr G E f)
  | [], f, h => by cases h; exact da_nil
  | e :: es, f, h => by
    unfold cArgs at h
    split at h
    · rename_i hp
      split at h
      · rename_i f1 f2 e1 e2
        cases h
        exact da_cons (star_plain hp _ _) (okE ok c e1) (cArgs_ok e2)
      · cases h
    · cases h
theorem cAnd_ok {pos : Pos} : ∀ {es : List Expr} {f : ExM}, cAnd P sc es = some f → PE X (.BoolOp .And es pos) (tD G E f)
  | [], f, h => by cases h
  | [a], f, h => de_one (okE ok c h)
  | a :: b :: rest, f, h => by
    unfold cAnd at h
    split at h
    · rename_i f1 f2 e1 e2
      cases h
      exact de_and c.hK (okE ok c e1) (cAnd_ok e2)
    · cases h
theorem cOr_ok {pos : Pos} : ∀ {es : List Expr} {f : ExM}, cOr P sc es = some f → PE X (.BoolOp .Or es pos) (tD G E f)
  | [], f, h => by cases h
  | [a], f, h => de_one (okE ok c h)
  | a :: b :: rest, f, h => by
    unfold cOr at h
    split at h
    · rename_i f1 f2 e1 e2
      cases h
      exact de_or c.hK (okE ok c e1) (cOr_ok e2)
    · cases h
theorem cAndT_ok {pos : Pos} : ∀ {es : List Expr} {f : TsM}, cAndT P sc es = some f → PW X (.BoolOp .And es pos) (tTs G E f)
  | [], f, h => by cases h
  | [a], f, h => dw_and1 (okT ok c h)
  | a :: b :: rest, f, h => by
    unfold cAndT at h
    split at h
    · rename_i f1 f2 e1 e2
      cases h
      exact dw_and (okT ok c e1) (cAndT_ok e2)
    · cases h
theorem cOrT_ok {pos : Pos} : ∀ {es : List Expr} {f : TsM}, cOrT P sc es = some f → PW X (.BoolOp .Or es pos) (tTs G E f)
  | [], f, h => by cases h
  | [a], f, h => dw_or1 (okT ok c h)
  | a :: b :: rest, f, h => by
    unfold cOrT at h
    split at h
    · rename_i f1 f2 e1 e2
      cases h
      exact dw_or (okT ok c e1) (cOrT_ok e2)
    · cases h
theorem cPart_ok {o : Option Expr} {f : Env → Sto → Res (Option Int)} (h : cPart P sc o = some f) : PO X o (tPt G E f) := by
  cases o with
  | none => cases h; exact dp_none
  | some e =>
    obtain ⟨g, e1, e2⟩ := Option.map_eq_some_iff.mp (show ((P sc).E e).map ptI = some f from h)
    subst e2
    exact dp_some (okE ok c e1)
theorem srA_ok {tg e : Expr} {f : SrM} (h : ((P sc).E e).map srA = some f) : PI X tg e (tSr G E f) := by
  obtain ⟨g, e1, e2⟩ := Option.map_eq_some_iff.mp h
  subst e2
  exact di_any c.hK (okE ok c e1)
omit ok in
theorem noblt {x : Str} (h : x ∈ bltNames) : X.mg x = none := c.blt x h
theorem cSrc_ok {tg e : Expr} {f : SrM} (h : cSrc P sc (isTupE tg) e = some f) : PI X tg e (tSr G E f) := by
  unfold cSrc at h
  split at h
  · split at h
    · rename_i hc
      obtain ⟨rfl, h1, h2⟩ := hc
      obtain ⟨g, e1, e2⟩ := Option.map_eq_some_iff.mp h
      subst e2
      exact di_range1 (c.gl (of_decide_eq_true h1)) (noblt c (by decide)) h2 (okE ok c e1)
    · exact srA_ok ok c h
  · split at h
    · rename_i hc
      obtain ⟨rfl, h1, h2, h3⟩ := hc
      split at h
      · rename_i f1 f2 e1 e2
        cases h
        exact di_range2 (c.gl (of_decide_eq_true h1)) (noblt c (by decide)) h2 h3 (okE ok c e1) (okE ok c e2)
      · cases h
    · split at h
      · rename_i hc
        obtain ⟨rfl, h1, h2, h3, h4⟩ := hc
        split at h
        · rename_i f1 f2 e1 e2
          cases h
          cases tg with
          | Tuple elts kk tpos => exact di_zip c.hK (c.gl (of_decide_eq_true h1)) (noblt c (by decide)) h2 h3 (okE ok c e1) (okE ok c e2)
          | _ => simp [isTupE] at h4
        · cases h
      · exact srA_ok ok c h
  · split at h
    · rename_i hc
      obtain ⟨rfl, h1, h2, h3, h4, h5⟩ := hc
      split at h
      · rename_i f1 f2 f3 e1 e2 e3
        cases h
        cases tg with
        | Tuple elts kk tpos => exact di_zip3 c.hK (c.gl (of_decide_eq_true h1)) (noblt c (by decide)) h2 h3 h4 (okE ok c e1) (okE ok c e2) (okE ok c e3)
        | _ => simp [isTupE] at h5
      · cases h
    · exact srA_ok ok c h
  · exact srA_ok ok c h
omit ok
theorem cTgN_ok {e : Expr} {ts : List Nat} {f : TgM} (h : cTgN C sc fq e = some (ts, f)) : PG X e (tTg G E ts f) := by
  unfold cTgN at h
  split at h
  · split at h
    · rename_i x pos hl
      obtain ⟨i, e1, e2⟩ := Option.map_eq_some_iff.mp h
      cases e2
      obtain ⟨l1, l2⟩ := locOf_ok c hl
      exact dg_name (pg_name (by rw [c.hN]; exact c.nd) (by rw [c.hN]; exact ixOf_ok e1) l1 l2)
    · cases h
  · cases h
theorem assign_plain {e : Expr} {es : List Expr} (h : ∃ p, cTgN C sc fq e = some p) (env : PySem.Env) : assignEach (e :: es) env = (false, assign e env) :: assignEach es env := by
  obtain ⟨p, h⟩ := h
  unfold cTgN at h
  split at h
  · rfl
  · cases h
theorem cTgsN_ok : ∀ {es : List Expr} {ts : List Nat} {f : TgsM}, cTgsN C sc fq es = some (ts, f) → PGs X es (tTgs G E ts f) ∧ (assignEach es X.env).length = es.length ∧ (assignEach es X.env).findIdx? (·.1) = none
  | [], _, _, h => by cases h; exact ⟨dgs_nil, rfl, rfl⟩
  | e :: es, ts, f, h => by
    unfold cTgsN at h
    split at h
    · rename_i t1 f1 t2 f2 e1 e2
      cases h
      obtain ⟨h1, h2, h3⟩ := cTgsN_ok e2
      have ha := assign_plain c (es := es) ⟨_, e1⟩ X.env
      refine ⟨dgs_cons (by rw [ha]; rfl) (cTgN_ok c e1) h1, by rw [ha, List.length_cons, List.length_cons, h2], ?_⟩
      rw [ha, List.findIdx?_cons, h3]
      rfl
    · cases h
theorem cTg1_ok {e : Expr} {ts : List Nat} {f : TgM} (h : cTg1 C sc fq e = some (ts, f)) : PG X e (tTg G E ts f) := by
  unfold cTg1 at h
  split at h
  · obtain ⟨p, e1, e2⟩ := Option.map_eq_some_iff.mp h
    cases e2
    obtain ⟨h1, h2, h3⟩ := cTgsN_ok c e1
    exact dg_tup c.hK c.calm h2 h3 h1
  · exact cTgN_ok c h
theorem assign_plain1 {e : Expr} {es : List Expr} (h : ∃ p, cTg1 C sc fq e = some p) (env : PySem.Env) : assignEach (e :: es) env = (false, assign e env) :: assignEach es env := by
  obtain ⟨p, h⟩ := h
  unfold cTg1 at h
  split at h
  · rfl
  · exact assign_plain c ⟨_, h⟩ env
theorem cTgs1_ok : ∀ {es : List Expr} {ts : List Nat} {f : TgsM}, cTgs1 C sc fq es = some (ts, f) → PGs X es (tTgs G E ts f) ∧ (assignEach es X.env).length = es.length ∧ (assignEach es X.env).findIdx? (·.1) = none
  | [], _, _, h => by cases h; exact ⟨dgs_nil, rfl, rfl⟩
  | e :: es, ts, f, h => by
    unfold cTgs1 at h
    split at h
    · rename_i t1 f1 t2 f2 e1 e2
      cases h
      obtain ⟨h1, h2, h3⟩ := cTgs1_ok e2
      have ha := assign_plain1 c (es := es) ⟨_, e1⟩ X.env
      refine ⟨dgs_cons (by rw [ha]; rfl) (cTg1_ok c e1) h1, by rw [ha, List.length_cons, List.length_cons, h2], ?_⟩
      rw [ha, List.findIdx?_cons, h3]
      rfl
    · cases h
theorem cTg_ok {e : Expr} {ts : List Nat} {f : TgM} (h : cTg C sc fq e = some (ts, f)) : PG X e (tTg G E ts f) := by
  unfold cTg at h
  split at h
  · obtain ⟨p, e1, e2⟩ := Option.map_eq_some_iff.mp h
    cases e2
    obtain ⟨h1, h2, h3⟩ := cTgs1_ok c e1
    exact dg_tup c.hK c.calm h2 h3 h1
  · exact cTgN_ok c h
include ok
theorem cIfs_ok {es : List Expr} {t : TsM} (h : cIfs P sc es = some t) : PTs X es (tTs G E t) := by
  unfold cIfs at h
  split at h
  · cases h; exact dts_nil
  · exact pts_one (okT ok c h)
  · cases h
theorem cComp_parts {elt tg iter : Expr} {ifs : List Expr} {scope : Scope} {f : ExM} (h : cComp C P sc elt tg iter ifs scope = some f) :
    ∃ (own : List (Str × Nat)) (src : SrM) (ts : List Nat) (g : TgM) (t : TsM) (fe : ExM), f = eLc (own.map (·.2)) src g t fe ∧ BlkOk X.N X.env.scope scope own ∧ (∀ x, foldedSetIterable iter X.env x = pure x) ∧ PI X tg iter (tSr G E src) ∧ (∀ i ∈ ts, i ∈ own.map (·.2)) ∧
      (∀ (s : Shared) (H : Hp) (Cl : Addr) (cl : List (Str × Addr)) (fp : List Addr), PG (X.blk s H scope (compEnvC scope cl Cl X.env) fp) tg (tTg G X0 ts g)) ∧
      (∀ (s : Shared) (H : Hp) (Cl : Addr) (cl : List (Str × Addr)) (fp : List Addr), PTs (X.blk s H scope (compEnvC scope cl Cl X.env) fp) ifs (tTs G X0 t)) ∧
      (∀ (s : Shared) (H : Hp) (Cl : Addr) (cl : List (Str × Addr)) (fp : List Addr), PE (X.blk s H scope (compEnvC scope cl Cl X.env) fp) elt (tD G X0 fe)) := by
  unfold cComp at h
  split at h
  · rename_i hb
    split at h
    · rename_i src ts g t fe e1 e2 e3 e4
      split at h
      · rename_i hts
        cases h
        have hB : BlkOk X.N X.env.scope scope (ownOf C scope) := by rw [c.hN, c.hsc]; exact blkOk_by hb.1
        have cb := fun s H Cl cl fp => c.blk hB.kind s H Cl cl fp
        exact ⟨ownOf C scope, src, ts, g, t, fe, rfl, hB, fun x => folded_plain hb.2 _ x, cSrc_ok ok c e1, fun i hi => of_decide_eq_true (List.all_eq_true.mp hts i hi),
          fun s H Cl cl fp => cTg_ok (cb s H Cl cl fp) e2, fun s H Cl cl fp => cIfs_ok ok (cb s H Cl cl fp) e3, fun s H Cl cl fp => okE ok (cb s H Cl cl fp) e4⟩
      · cases h
    · cases h
  · cases h
theorem lookup_mem {α : Type} {x : Str} {v : α} : ∀ {l : List (Str × α)}, l.lookup x = some v → (x, v) ∈ l
  | (y, u) :: r, h => by
    rw [List.lookup_cons] at h
    split at h
    · rename_i e
      cases h
      rw [show x = y from by simpa using e]
      exact List.mem_cons_self
    · exact List.mem_cons_of_mem _ (lookup_mem h)
omit ok in
theorem b1_ok {x : Str} {g : Rv → Sto → Res Rv} (h : (x, g) ∈ b1s) : x ∈ bltNames ∧ ((∃ id r, CallR X (.builtin id) r ∧ OkB1 G r g ∧ bootBuiltins x = some (.builtin id)) ∨ (∃ T r, CallR X (.type T) r ∧ OkB1 G r g ∧ bootBuiltins x = some (.type T))) ∧ x ≠ "__name__" ∧ (x == ("__debug__" : Str)) = false := by
  unfold b1s at h
  simp only [List.mem_cons, List.not_mem_nil, or_false] at h
  rcases h with h | h | h | h | h | h | h | h | h
  · cases h
    obtain ⟨r, h1, h2⟩ := ok_len (G := G) c.hK
    exact ⟨by decide, .inl ⟨_, r, h1, h2, boot_len⟩, by decide, by decide⟩
  · cases h
    obtain ⟨r, h1, h2⟩ := ok_abs (G := G) (X := X)
    exact ⟨by decide, .inl ⟨_, r, h1, h2, by decide +kernel⟩, by decide, by decide⟩
  · cases h
    obtain ⟨r, h1, h2⟩ := ok_sum (G := G) c.hK c.calm
    exact ⟨by decide, .inl ⟨_, r, h1, h2, by decide +kernel⟩, by decide, by decide⟩
  · cases h
    obtain ⟨r, h1, h2⟩ := ok_all (G := G) c.hK c.calm
    exact ⟨by decide, .inl ⟨_, r, h1, h2, by decide +kernel⟩, by decide, by decide⟩
  · cases h
    obtain ⟨r, h1, h2⟩ := ok_list (G := G) c.hK
    exact ⟨by decide, .inr ⟨_, r, h1, h2, by decide +kernel⟩, by decide, by decide⟩
  · cases h
    obtain ⟨r, h1, h2⟩ := ok_tuple (G := G) c.hK
    exact ⟨by decide, .inr ⟨_, r, h1, h2, by decide +kernel⟩, by decide, by decide⟩
  · cases h
    exact ⟨by decide, .inl ⟨_, _, cr_minD c.calm c.units, ok_best1 c.hK, by decide +kernel⟩, by decide, by decide⟩
  · cases h
    exact ⟨by decide, .inl ⟨_, _, cr_maxD c.calm c.units, ok_best1 c.hK, by decide +kernel⟩, by decide, by decide⟩
  · cases h
    exact ⟨by decide, .inl ⟨_, _, cr_sortedD c.units, ok_sorted1 c.hK, by decide +kernel⟩, by decide, by decide⟩
omit ok in
theorem b2_ok {x : Str} {g : Rv → Rv → Sto → Res Rv} (h : (x, g) ∈ b2s) : x ∈ bltNames ∧ (∃ id r, CallR X (.builtin id) r ∧ OkB2 G r g ∧ bootBuiltins x = some (.builtin id)) ∧ x ≠ "__name__" ∧ (x == ("__debug__" : Str)) = false := by
  unfold b2s at h
  simp only [List.mem_cons, List.not_mem_nil, or_false] at h
  rcases h with h | h
  · cases h
    obtain ⟨r, h1, h2⟩ := ok_max (G := G) c.calm
    exact ⟨by decide, ⟨_, r, h1, h2, by decide +kernel⟩, by decide, by decide⟩
  · cases h
    obtain ⟨r, h1, h2⟩ := ok_min (G := G) c.calm
    exact ⟨by decide, ⟨_, r, h1, h2, by decide +kernel⟩, by decide, by decide⟩
omit ok in
theorem tys_ok {x : Str} {T : Ty} (h : (x, T) ∈ tys) : T ≠ .none ∧ x ∈ bltNames ∧ bootBuiltins x = some (.type T.nm) ∧ x ≠ "__name__" ∧ (x == ("__debug__" : Str)) = false := by
  unfold tys at h
  simp only [List.mem_cons, List.not_mem_nil, or_false] at h
  rcases h with h | h | h | h | h | h
  all_goals (cases h; exact ⟨by decide, by decide, by decide +kernel, by decide, by decide⟩)
theorem cCall1_ok {x : Str} {a : Expr} {f : ExM} {p pos : Pos} (h : cCall1 P sc x a = some f) : PE X (.Call (.Name x p) [a] [] pos) (tD G E f) := by
  unfold cCall1 at h
  split at h
  · rename_i hp
    split at h
    · rename_i g f1 e1 e2
      cases h
      obtain ⟨h1, h2, h3, h4⟩ := b1_ok (G := G) c (lookup_mem ok c e1)
      rcases h2 with ⟨id, r, q1, q2, q3⟩ | ⟨id, r, q1, q2, q3⟩
      · exact de_b1 q1 q2 (c.gl (of_decide_eq_true hp.2)) (noblt c h1) q3 h3 h4 hp.1 (okE ok c e2)
      · exact de_t1 q1 q2 (c.gl (of_decide_eq_true hp.2)) (noblt c h1) q3 h3 h4 hp.1 (okE ok c e2)
    · cases h
  · cases h
theorem cCall2_ok {x : Str} {a b : Expr} {f : ExM} {p pos : Pos} (h : cCall2 P sc x a b = some f) : PE X (.Call (.Name x p) [a, b] [] pos) (tD G E f) := by
  unfold cCall2 at h
  split at h
  · rename_i hp
    split at h
    · rename_i hx
      subst hx
      split at h
      · rename_i n p2
        split at h
        · rename_i hg
          split at h
          · rename_i T f1 e1 e2
            cases h
            obtain ⟨h1, h2, h3, h4, h5⟩ := tys_ok c (lookup_mem ok c e1)
            exact de_isi c.hK h1 (c.gl (of_decide_eq_true hp.2.2)) (noblt c (by decide)) (c.gl (of_decide_eq_true hg)) (noblt c h2) h3 h4 h5 hp.1 (okE ok c e2)
          · cases h
        · cases h
      · rename_i n p2 m p3 k4 p4
        split at h
        · rename_i hg
          split at h
          · rename_i T U f1 e1 e2 e3
            cases h
            obtain ⟨h1, h2, h3, h4, h5⟩ := tys_ok c (lookup_mem ok c e1)
            obtain ⟨g1, g2, g3, g4, g5⟩ := tys_ok c (lookup_mem ok c e2)
            exact de_isi2 c.hK h1 g1 (c.gl (of_decide_eq_true hp.2.2)) (noblt c (by decide)) (c.gl (of_decide_eq_true hg.1)) (noblt c h2) h3 h4 h5 (c.gl (of_decide_eq_true hg.2)) (noblt c g2) g3 g4 g5 hp.1 (okE ok c e3)
          · cases h
        · cases h
      · cases h
    · split at h
      · rename_i g f1 f2 e1 e2 e3
        cases h
        obtain ⟨h1, ⟨id, r, q1, q2, q3⟩, h3, h4⟩ := b2_ok (G := G) c (lookup_mem ok c e1)
        exact de_b2 q1 q2 (c.gl (of_decide_eq_true hp.2.2)) (noblt c h1) q3 h3 h4 hp.1 hp.2.1 (okE ok c e2) (okE ok c e3)
      · cases h
  · cases h
theorem MtM.r {id : String} {r : V → List V → Hp → VK → Prop} (h : MtM X id r) : MtR X id r := fun pins s σ H x xs v us Q I rx rs q => h pins s σ H x xs v us Q I rx rs q
theorem cMeth1_ok {o a : Expr} {m : Str} {f : ExM} {apos cpos : Pos} (hl : (apos.endLine == cpos.line) = true) (h : cMeth1 P sc o m a = some f) : PE X (.Call (.Attribute o m apos) [a] [] cpos) (tD G E f) := by
  unfold cMeth1 at h
  split at h
  · rename_i hp
    split at h
    · rename_i f1 f2 e1 e2
      split at h
      · rename_i hm
        subst hm
        cases h
        exact de_lm1 c.hK PySem.F.slot_list_append PySem.F.type_list_append (MtM.r ok c mt_append) ok_append hp.2 hl hp.1 (okE ok c e1) (okE ok c e2)
      · split at h
        · rename_i hm
          subst hm
          cases h
          exact de_lm1 c.hK PySem.F.slot_list_pop PySem.F.type_list_pop (MtM.r ok c mt_popAt) ok_popAt hp.2 hl hp.1 (okE ok c e1) (okE ok c e2)
        · cases h
    · cases h
  · cases h
theorem cMeth2_ok {o a b : Expr} {m : Str} {f : ExM} {apos cpos : Pos} (hl : (apos.endLine == cpos.line) = true) (h : cMeth2 P sc o m a b = some f) : PE X (.Call (.Attribute o m apos) [a, b] [] cpos) (tD G E f) := by
  unfold cMeth2 at h
  split at h
  · rename_i hp
    split at h
    · rename_i f1 f2 f3 e1 e2 e3
      split at h
      · rename_i hm
        subst hm
        cases h
        exact de_lm2 c.hK PySem.F.slot_list_insert PySem.F.type_list_insert mt_insert ok_insert hp.2.2 hl hp.1 hp.2.1 (okE ok c e1) (okE ok c e2) (okE ok c e3)
      · cases h
    · cases h
  · cases h
theorem call_ok {x : Str} {e : Expr} {es : List Expr} {f : ArM} {p pos : Pos} (hx : x ∈ C.fns) (hg : glOf sc x = true) (hp : (e :: es).all plainE = true) (hd : (x == ("__debug__" : Str)) = false) (h : cArgs P sc (e :: es) = some f) : PE X (.Call (.Name x p) (e :: es) [] pos) (tD G E (eCall (C.F x) f)) := by
  obtain ⟨CX, k, fa, fd, ps, F, hr, hm, hkp, hb, hpass, hno, har⟩ := c.fns x hx
  have hp' := hp
  rw [List.all_cons, Bool.and_eq_true] at hp'
  exact PE.wk (pe_call F hr (c.gl (of_decide_eq_true hg)) hm hkp hb .nil hpass (cArgs_ok ok c h) hd (star_plain hp'.1 _ _) (star_any pos _ hp'.2)) fun σ H Q q => tCall_of har q
theorem stepE_ok {e : Expr} {f : ExM} (h : stepE C P sc e = some f) : PE X e (tD G E f) := by
  unfold stepE at h
  split at h
  · cases h; exact de_int
  · cases h; exact de_bl
  · cases h; exact de_str
  · cases h; exact de_non
  · split at h
    · rename_i hv
      obtain ⟨i, e1, e2⟩ := Option.map_eq_some_iff.mp h
      subst e2
      exact de_nm (by rw [c.hN]; exact ixOf_ok e1) (by rw [c.hsc]; exact visOf_ok hv.1) hv.2.1 hv.2.2
    · split at h
      · rename_i hg
        obtain ⟨i, e1, e2⟩ := Option.map_eq_some_iff.mp h
        subst e2
        obtain ⟨t, ht⟩ := c.glb _ _ e1
        exact de_glob (c.gl (of_decide_eq_true hg.1)) ht hg.2
      · cases h
  · split at h
    · rename_i g f1 f2 e1 e2 e3
      cases h
      obtain ⟨r, h1, h2⟩ := opB_ok (G := G) (E := E) c.hK e1
      exact de_bin h1 h2 (okE ok c e2) (okE ok c e3)
    · cases h
  · split at h
    · rename_i hs
      split at h
      · rename_i f1 f2 e1 e2
        cases h
        obtain ⟨r, h1, h2⟩ := opC_ok (G := G) (E := E) c.hK c.units _
        exact de_cmp h1 h2 (marks_plain hs) (okE ok c e1) (okE ok c e2)
      · cases h
    · cases h
  · split at h
    · rename_i hs
      split at h
      · rename_i f1 f2 f3 e1 e2 e3
        cases h
        obtain ⟨r, h1, h2⟩ := opC_ok (G := G) (E := E) c.hK c.units _
        obtain ⟨r', h1', h2'⟩ := opC_ok (G := G) (E := E) c.hK c.units _
        exact de_chain h1 h1' h2 h2' (by unfold lastMarks lastMarks; exact marks_plain hs) (okE ok c e1) (okE ok c e2) (okE ok c e3)
      · cases h
    · cases h
  · exact cAnd_ok ok c h
  · exact cOr_ok ok c h
  · obtain ⟨g, e1, e2⟩ := Option.map_eq_some_iff.mp h
    subst e2
    exact de_not c.hK (okE ok c e1)
  · obtain ⟨g, e1, e2⟩ := Option.map_eq_some_iff.mp h
    subst e2
    exact de_neg (okE ok c e1)
  · split at h
    · rename_i t f1 f2 e1 e2 e3
      cases h
      exact de_if (okT ok c e1) (okE ok c e2) (okE ok c e3)
    · cases h
  · obtain ⟨g, e1, e2⟩ := Option.map_eq_some_iff.mp h
    subst e2
    exact de_tup (cArgs_ok ok c e1)
  · obtain ⟨g, e1, e2⟩ := Option.map_eq_some_iff.mp h
    subst e2
    exact de_lst (cArgs_ok ok c e1)
  · obtain ⟨f1, e1, e2⟩ := Option.map_eq_some_iff.mp h
    subst e2
    exact de_rev c.hK (okE ok c e1)
  · split at h
    · rename_i f1 f2 f3 e1 e2 e3
      cases h
      exact de_sl c.hK (okE ok c e1) (cPart_ok ok c e2) (cPart_ok ok c e3)
    · cases h
  · split at h
    · rename_i hp
      split at h
      · rename_i f1 f2 e1 e2
        cases h
        obtain ⟨r, h1, h2⟩ := ok_ix (G := G) (E := E) c.hK
        exact PE.wk (pe_ix h1 (okE ok c e1) (okE ok c e2) (plain_ix hp)) fun σ H Q q => tD_bin h2 q
      · cases h
    · cases h
  · split at h
    · rename_i hx
      split at h
      · rename_i hg
        obtain ⟨g, e1, e2⟩ := Option.map_eq_some_iff.mp h
        subst e2
        exact call_ok ok c hx hg.1 hg.2.1 hg.2.2 e1
      · cases h
    · split at h
      · exact cCall1_ok ok c h
      · exact cCall2_ok ok c h
      · cases h
  · split at h
    · exact cMeth1_ok ok c (by assumption) h
    · cases h
  · split at h
    · exact cMeth2_ok ok c (by assumption) h
    · cases h
  · obtain ⟨own, src, ts, g, t, fe, rfl, hB, hf, hI, hl, hg, ht, he⟩ := cComp_parts ok c h
    exact de_lc c.calm (by rw [c.hN]; exact c.nd) hI hB hg ht he hf hl
  · cases h
theorem stepT_ok {e : Expr} {f : TsM} (h : stepT P sc e = some f) : PT X e (tTs G E f) := by
  unfold stepT at h
  split at h
  · split at h
    · rename_i hs
      split at h
      · rename_i f1 f2 e1 e2
        cases h
        obtain ⟨r, h1, h2⟩ := opC_ok (G := G) (E := E) c.hK c.units _
        exact dt_cmp h1 h2 (marks_plain hs) (okE ok c e1) (okE ok c e2)
      · cases h
    · cases h
  · split at h
    · rename_i hs
      split at h
      · rename_i f1 f2 f3 e1 e2 e3
        cases h
        obtain ⟨r, h1, h2⟩ := opC_ok (G := G) (E := E) c.hK c.units _
        obtain ⟨r', h1', h2'⟩ := opC_ok (G := G) (E := E) c.hK c.units _
        exact dt_chain h1 h1' h2 h2' (by unfold lastMarks lastMarks; exact marks_plain hs) (okE ok c e1) (okE ok c e2) (okE ok c e3)
      · cases h
    · cases h
  · exact PW.pt (cAndT_ok ok c h)
  · exact PW.pt (cOrT_ok ok c h)
  · obtain ⟨g, e1, e2⟩ := Option.map_eq_some_iff.mp h
    subst e2
    exact dt_not (okT ok c e1)
  · split at h
    · rename_i hp
      obtain ⟨g, e1, e2⟩ := Option.map_eq_some_iff.mp h
      subst e2
      exact dt_tru c.hK (isTrue_of hp _) (okE ok c e1)
    · cases h
end
theorem cP_ok (C : Cc) (G : Gm) : ∀ n, PkOk C G (cP C n)
  | 0 => by
    intro E sc fq X c
    exact ⟨fun e f h => (nomatch (show (none : Option ExM) = some f from h)), fun e f h => (nomatch (show (none : Option TsM) = some f from h))⟩
  | n + 1 => by
    intro E sc fq X c
    exact ⟨fun e f h => stepE_ok (cP_ok C G n) c h, fun e f h => stepT_ok (cP_ok C G n) c h⟩
end Bz

set_option Elab.async false
set_option linter.all false
set_option maxRecDepth 100000
set_option maxHeartbeats 4000000
/-! Bz, eleventh part: statements, defs, the whole program. -/
namespace Bz
open PySem PySem.Spec PyProof.Rows L2
/-! ### names for what the compiler gives -/
def negV : Rv → Sto → Res Rv := fun x S => match x with
  | .val (.int i) => .ok (.val (.int (-i))) S
  | _ => .bad
def mApp1 (x : Rv) (d : D) (S : Sto) : Res Rv := mAppend x [d] S
def mPop1 (x : Rv) (d : D) (S : Sto) : Res Rv := mPopAt x [d] S
def mIns2 (x : Rv) (d e : D) (S : Sto) : Res Rv := mInsert x [d, e] S
/-! ### op= -/
def iaddV : Rv → Rv → Sto → Res Rv := fun x y S => match x, y with
  | .val (.int i), .val (.int j) => .ok (.val (.int (i + j))) S
  | .val (.str i), .val (.str j) => if i.length + j.length ≤ big then .ok (.val (.str (i ++ j))) S else .bad
  | x, y => match lstOf y S with
    | some ys => chg x S fun xs n => if xs.length + ys.length ≤ big then .ok x (S.set n (.lst (xs ++ ys))) else .bad
    | none => .bad
theorem ok_iadd {G : Gm} {E : XK} {X : Cx} : ∃ r, OpR X (inplaceOp .Add) r ∧ OkOp G E r iaddV := by
  refine ⟨_, OpR.or iop_add (OpR.or iop_add_str iop_ext), ?_⟩
  intro x y S v u μ H H0 Q QE w rx ry q
  unfold iaddV at q
  split at q
  · cases rx; cases ry
    exact .inl ⟨_, _, rfl, rfl, q _ H μ Le.refl w (.int _)⟩
  · split at q
    · rename_i hz
      cases rx; cases ry
      exact .inr (.inl ⟨_, _, rfl, rfl, big_le hz, q _ H μ Le.refl w (.str _)⟩)
    · exact q.elim
  · split at q
    · rename_i ys e2
      obtain ⟨b, ws, rfl, hb, r2⟩ := lstOf_ok w ry e2
      obtain ⟨n, a, xs, vs, rfl, e, hn, rfl, ha, r1, q⟩ := chg_ok w rx q
      split at q
      · rename_i hz
        refine .inr (.inr ⟨a, b, vs, ws, rfl, rfl, ha, hb, big_le (by rw [← r1.length, ← r2.length]; exact hz), ?_⟩)
        exact q _ _ μ (Le.write hn ha) (w.write hn ha (r1.append r2)) (.loc hn)
      · exact q.elim
    · exact q.elim
def opI : Operator → Option (Rv → Rv → Sto → Res Rv)
  | .Add => some iaddV
  | .Sub => some subV
  | _ => none
theorem opI_ok {G : Gm} {E : XK} {X : Cx} {op : Operator} {g : Rv → Rv → Sto → Res Rv} (h : opI op = some g) : ∃ r, OpR X (inplaceOp op) r ∧ OkOp G E r g := by
  cases op <;> cases h
  · exact ok_iadd
  · refine ⟨rI (fun _ _ => True) fun i j => .int (i - j), ?_, ok_intI fun _ _ _ => trivial⟩
    intro pins s σ H x y v u Q I rx ry ⟨i, j, e1, e2, _, q⟩
    exact iop_sub pins s σ H x y v u Q I rx ry ⟨i, j, e1, e2, q⟩

section
variable (C : Cc) (P : Scope → Pk) (sc : Scope) (fq : Str → Bool) (Rr : Stmt → Option StM)
def cBlk : List Stmt → Option StM
  | [] => some sNil
  | st :: r => match Rr st, cBlk r with
    | some f, some g => some (sSeq f g)
    | _, _ => none
def notTL : Expr → Bool
  | .Tuple .. => false
  | .List .. => false
  | _ => true
/-- targets of any kind -/
def cTgA (t : Expr) : Option TgM := match t with
  | .Subscript o i _ => if plainE i = true then (match stepE C P sc o, stepE C P sc i with
    | some f, some g => some (gSb setL f g)
    | _, _ => none) else none
  | t => (cTg C sc fq t).map (·.2)
def swDone (scope : Scope) (x : Str) (py pos : Pos) : Bool := decide (sc.names.lookup x = some .local) && (py.line == pos.line) && !(scope.names.any fun (n, k) => n == x && (k == .local || k == .cell))
def stepS (st : Stmt) : Option StM := match st with
  | .Return (some e) _ => (stepE C P sc e).map sRet
  | .Return none _ => some sRetN
  | .Pass _ => some sPass
  | .Break _ => some sBreak
  | .Continue _ => some sCont
  | .Expr e _ => if isComp e = false then (stepE C P sc e).map sExpr else none
  | .If c a b _ => match stepT P sc c, cBlk Rr a, cBlk Rr b with
    | some t, some f, some g => some (sIf t f g)
    | _, _, _ => none
  | .While c b [] _ => match stepT P sc c, cBlk Rr b with
    | some t, some f => some (sWhile t f)
    | _, _ => none
  | .For tg iter b [] _ => if notSet iter = true then (match cSrc P sc (isTupE tg) iter, cTg C sc fq tg, cBlk Rr b with
    | some src, some (_, g), some f => some (sFor src g f)
    | _, _, _ => none) else none
  | .Assign [.Name x py] (.ListComp elt [⟨tg, iter, ifs, 0⟩] scope pos) _ => if locOf sc fq x = true then (match ixOf C.N x, cComp C P sc elt tg iter ifs scope with
    | some i, some f => if swDone sc scope x py pos = true ∨ sc.names.lookup x ≠ some .local then some (sAsg f (gNm i)) else none
    | _, _ => none) else none
  | .Assign [.Tuple ts _ _] (.Tuple vs _ _) _ => match swCalc sc ts vs with
    | some (some [x, y]) => (match ts, vs with
      | [.Name x' _, .Name y' _], [a, b] => if x' = x ∧ y' = y ∧ x ≠ y ∧ sc.names.lookup x = some .local ∧ sc.names.lookup y = some .local then (match ixOf C.N x, ixOf C.N y, cArgs P sc [a, b] with
        | some i, some j, some f => some (sPar2 i j f)
        | _, _, _ => none) else none
      | _, _ => none)
    | some (some [x, y, z]) => (match ts, vs with
      | [.Name x' _, .Name y' _, .Name z' _], [a, b, c] => if x' = x ∧ y' = y ∧ z' = z ∧ x ≠ y ∧ x ≠ z ∧ y ≠ z ∧ sc.names.lookup x = some .local ∧ sc.names.lookup y = some .local ∧ sc.names.lookup z = some .local then (match ixOf C.N x, ixOf C.N y, ixOf C.N z, cArgs P sc [a, b, c] with
        | some i, some j, some l, some f => some (sPar3 i j l f)
        | _, _, _, _ => none) else none
      | _, _ => none)
    | some none => (match cArgs P sc vs, cTg C sc fq (.Tuple ts 0 ⟨0, 0, 0, 0⟩) with
      | some f, some (_, g) => some (sAsg (eTup f) g)
      | _, _ => none)
    | _ => none
  | .Assign [t] e _ => if isComp e = false ∧ (isTupE e = false ∨ notTL t = true) then (match stepE C P sc e, cTgA C P sc fq t with
    | some f, some g => some (sAsg f g)
    | _, _ => none) else none
  | .AugAssign (.Name x _) op e _ => if locOf sc fq x = true then (match ixOf C.N x, opI op, stepE C P sc e with
    | some i, some g, some f => some (sAug i g f)
    | _, _, _ => none) else none
  | _ => none
end
def cS (C : Cc) (P : Scope → Pk) (sc : Scope) (fq : Str → Bool) : Nat → Stmt → Option StM
  | 0 => fun _ => none
  | n + 1 => stepS C P sc fq (cS C P sc fq n)

section
variable {C : Cc} {G : Gm} {E : XK} {sc : Scope} {fq : Str → Bool} {X : Cx} {P : Scope → Pk} {Rr : Stmt → Option StM}
theorem cBlk_ok (hR : ∀ st f, Rr st = some f → PS X st (tSt G E f)) : ∀ {b : List Stmt} {f : StM}, cBlk Rr b = some f → PSs X b (tSt G E f)
  | [], f, h => by cases h; exact ds_nil
  | st :: r, f, h => by
    unfold cBlk at h
    split at h
    · rename_i f1 f2 e1 e2
      cases h
      exact ds_cons (hR _ _ e1) (cBlk_ok hR e2)
    · cases h
theorem isTupE_no {e : Expr} (h : isTupE e = false) : ¬ ∃ vs k p, e = .Tuple vs k p := fun ⟨vs, k, p, z⟩ => by subst z; cases h
theorem gTup_pos {es : List Expr} {k k' : Nat} {p p' : Pos} {ts : List Nat} {g : TgM} (h : PG X (.Tuple es k p) (tTg G E ts g)) : True := trivial
theorem stepS_ok (ok : PkOk C G P) (c : Cok C G E sc fq X) (hR : ∀ st f, Rr st = some f → PS X st (tSt G E f)) {st : Stmt} {f : StM} (h : stepS C P sc fq Rr st = some f) : PS X st (tSt G E f) := by
  have hND : X.N.Nodup := by rw [c.hN]; exact c.nd
  unfold stepS at h
  split at h
  · obtain ⟨g, e1, e2⟩ := Option.map_eq_some_iff.mp h
    subst e2
    exact ds_ret (stepE_ok ok c e1)
  · cases h; exact ds_retN
  · cases h; exact ds_pass
  · cases h; exact ds_break
  · cases h; exact ds_cont
  · split at h
    · rename_i hp
      obtain ⟨g, e1, e2⟩ := Option.map_eq_some_iff.mp h
      subst e2
      exact ds_expr (swaps_plain hp _ _ _) (stepE_ok ok c e1)
    · cases h
  · split at h
    · rename_i t f1 f2 e1 e2 e3
      cases h
      exact ds_if (stepT_ok ok c e1) (cBlk_ok hR e2) (cBlk_ok hR e3)
    · cases h
  · split at h
    · rename_i t f1 e1 e2
      cases h
      exact ds_while c.own (stepT_ok ok c e1) (cBlk_ok hR e2)
    · cases h
  · split at h
    · rename_i hp
      split at h
      · rename_i src ts g f1 e1 e2 e3
        cases h
        exact ds_for c.own c.calm (cSrc_ok ok c e1) (cTg_ok c e2) (cBlk_ok hR e3) (fun x => folded_plain hp _ x)
      · cases h
    · cases h
  · rename_i x py elt tg iter ifs scope pos spos
    split at h
    · rename_i hl
      split at h
      · rename_i i f1 e1 e2
        split at h
        · rename_i hs
          cases h
          obtain ⟨l1, l2⟩ := locOf_ok c hl
          obtain ⟨own, src, ts, g, t, fe, rfl, hB, hf, hI, hlt, hg, ht, he⟩ := cComp_parts ok c e2
          have hi : X.N[i]? = some x := by rw [c.hN]; exact ixOf_ok e1
          rcases hs with hs | hs
          · unfold swDone at hs
            simp only [Bool.and_eq_true, Bool.not_eq_true'] at hs
            have hy : X.env.scope.names.lookup x = some .local := by rw [c.hsc]; exact of_decide_eq_true hs.1.1
            exact ds_setLc c.calm hND hi hy (sw_true (by rw [c.hsc]; exact c.kind) hy hs.1.2 hs.2) hI hB hg ht he hf hlt
          · refine ds_set hND hi l1 l2 ?_ (de_lc c.calm hND hI hB hg ht he hf hlt)
            unfold swapsWith
            have z : (X.env.kindOf x == some NameKind.local) = false := by
              unfold Env.kindOf
              rw [c.hsc]
              simpa using hs
            simp only [z, Bool.and_false, Bool.false_and]
        · cases h
      · cases h
    · cases h
  · rename_i ts kt pt vs k2 pt2 pos
    split at h
    · rename_i x y hsw
      split at h
      · rename_i x' px y' py a b
        split at h
        · rename_i hc
          obtain ⟨rfl, rfl, hne, h1, h2⟩ := hc
          split at h
          · rename_i i j f1 e1 e2 e3
            cases h
            have hi : X.N[i]? = some x' := by rw [c.hN]; exact ixOf_ok e1
            have hj : X.N[j]? = some y' := by rw [c.hN]; exact ixOf_ok e2
            have hij : i ≠ j := fun z => by subst z; rw [hi] at hj; cases hj; exact hne rfl
            exact PS.wk (ps_par c.calm hND hi hj hij (by rw [c.hsc]; exact h1) (by rw [c.hsc]; exact h2) (cArgs_ok ok c e3) (swCalc_ok hsw _ _ _ _ c.hsc c.kind) rfl) fun Z σ H q => par2_of q
          · cases h
        · cases h
      · cases h
    · rename_i x y z hsw
      split at h
      · rename_i x' px y' py z' pz a b d
        split at h
        · rename_i hc
          obtain ⟨rfl, rfl, rfl, hne1, hne2, hne3, h1, h2, h3⟩ := hc
          split at h
          · rename_i i j l f1 e1 e2 e3 e4
            cases h
            have hi : X.N[i]? = some x' := by rw [c.hN]; exact ixOf_ok e1
            have hj : X.N[j]? = some y' := by rw [c.hN]; exact ixOf_ok e2
            have hl : X.N[l]? = some z' := by rw [c.hN]; exact ixOf_ok e3
            have hij : i ≠ j := fun z => by subst z; rw [hi] at hj; cases hj; exact hne1 rfl
            have hil : i ≠ l := fun z => by subst z; rw [hi] at hl; cases hl; exact hne2 rfl
            have hjl : j ≠ l := fun z => by subst z; rw [hj] at hl; cases hl; exact hne3 rfl
            exact PS.wk (ps_par3 c.calm hND hi hj hl hij hil hjl (by rw [c.hsc]; exact h1) (by rw [c.hsc]; exact h2) (by rw [c.hsc]; exact h3) (cArgs_ok ok c e4) (swCalc_ok hsw _ _ _ _ c.hsc c.kind) rfl) fun Z σ H q => par3_of q
          · cases h
        · cases h
      · cases h
    · rename_i hsw
      split at h
      · rename_i f1 us g e1 e2
        cases h
        have hg : PG X (.Tuple ts kt pt) (tTg G E us g) := by
          unfold cTg at e2
          obtain ⟨p, e3, e4⟩ := Option.map_eq_some_iff.mp e2
          cases e4
          obtain ⟨h1, h2, h3⟩ := cTgs1_ok c e3
          exact dg_tup c.hK c.calm h2 h3 h1
        exact ds_asg rfl (swCalc_ok hsw _ _ _ _ c.hsc c.kind) rfl (de_tup (cArgs_ok ok c e1)) hg
      · cases h
    · cases h
  · rename_i t e pos _ _
    split at h
    · rename_i hp
      split at h
      · rename_i f1 g e1 e2
        cases h
        have hs : swapsWithSole [t] e pos.line X.env = pure false := swaps_plain hp.1 _ _ _
        have hw : swappedStores [t] e X.env = pure none := by
          rcases hp.2 with z | z
          · exact sw_other (isTupE_no z) _
          · exact sw_other2 (fun ⟨_, _, _, q⟩ => by subst q; cases z) (fun ⟨_, _, q⟩ => by subst q; cases z) _
        unfold cTgA at e2
        split at e2
        · rename_i o i p
          split at e2
          · rename_i hpi
            split at e2
            · rename_i f2 f3 e3 e4
              cases e2
              exact ds_asg hs hw rfl (stepE_ok ok c e1) (dg_sub hpi (stepE_ok ok c e3) (stepE_ok ok c e4))
            · cases e2
          · cases e2
        · obtain ⟨p, e3, e4⟩ := Option.map_eq_some_iff.mp e2
          subst e4
          have h1 : (assignEach [t] X.env).map (·.2) = [assign t X.env] := by
            cases t <;> first | rfl | (simp [cTg, cTgN] at e3)
          exact ds_asg hs hw h1 (stepE_ok ok c e1) (cTg_ok c (ts := p.1) (f := p.2) e3)
      · cases h
    · cases h
  · split at h
    · rename_i hl
      split at h
      · rename_i i g f1 e1 e2 e3
        cases h
        obtain ⟨l1, l2⟩ := locOf_ok c hl
        obtain ⟨r, h1, h2⟩ := opI_ok (G := G) (E := E) (X := X) e2
        exact ds_aug hND (by rw [c.hN]; exact ixOf_ok e1) l1 l2 h1 h2 (stepE_ok ok c e3)
      · cases h
    · cases h
  · cases h
theorem cS_ok (ok : PkOk C G P) (c : Cok C G E sc fq X) : ∀ n st f, cS C P sc fq n st = some f → PS X st (tSt G E f)
  | 0, st, f, h => by cases h
  | n + 1, st, f, h => stepS_ok ok c (fun st f h => cS_ok ok c n st f h) h
end

/-! ### the program -/
structure FD where
  name : Str
  st : Stmt
  N : List Str
  ps : List Str
  gl : List (Str × Int) := []
/-- a body, as a function: from the syntax with a depth of 30 -/
def cBody (C : Cc) (sc : Scope) (body : List Stmt) : Option StM := cBlk (cS C (cP C 30) sc (fun _ => true) 30) body
def finish (r : Res Fl) : Res D := bnd r fun fl S => match fl with
  | .rt d => .ok d S
  | .nx _ => .ok .non S
  | _ => .bad
def ent (N : List Str) (ds : List D) : Env := ds.map some ++ List.replicate (N.length - ds.length) none
def runB (np : Nat) (N : List Str) (f : StM) : FnM := fun ds S => if ds.length = np then finish (f (ent N ds) S) else .bad
def findFD (tab : List FD) (x : Str) : Option FD := tab.find? fun fd => decide (fd.name = x)
def npOf (tab : List FD) (x : Str) : Nat := match findFD tab x with
  | some fd => fd.ps.length
  | none => 0
def ccOf (tab : List FD) (F : Str → FnM) (fd : FD) : Cc := ⟨fd.N, tab.map (·.name), F, npOf tab, fd.gl⟩
def semF (tab : List FD) : Nat → Str → FnM
  | 0 => fun _ _ _ => .bad
  | n + 1 => fun x ds S => match findFD tab x with
    | some fd => (match cBody (ccOf tab (semF tab n) fd) (defScope fd.st) (defBody fd.st) with
      | some f => runB fd.ps.length fd.N f ds S
      | none => .bad)
    | none => .bad
theorem semF_len (tab : List FD) : ∀ n x ds S, ds.length ≠ npOf tab x → semF tab n x ds S = .bad
  | 0, x, ds, S, _ => rfl
  | n + 1, x, ds, S, h => by
    unfold semF
    split
    · rename_i fd e
      unfold npOf at h
      rw [e] at h
      split
      · unfold runB
        rw [if_neg h]
      · rfl
    · rfl
/-- the def fd as it stands behind the top -/
structure FdOk (K : PySem.W.Frag) (mg : Str → Option Value) (fd : FD) (f : Addr) (dat : FuncData) : Prop where
  fn : Fun K fd.name fd.name fd.st f dat
  sc : FnScope fd.N fd.ps (defScope fd.st)
  at_ : mg fd.name = some (.ref f)
  bi : Binds K dat fd.ps []
  glb : ∀ x i, fd.gl.lookup x = some i → ∃ t, mg x = some (.int i t)
theorem ent_R {G : Gm} {μ : Mp} {H : Hp} {N : List Str} {ds : List D} {vs : List V} (r : Rs G μ H ds vs) : EnvR G μ H (ent N ds) (L2.start N vs) := by
  unfold ent L2.start
  refine ⟨by simp [r.length], fun i d e => ?_⟩
  by_cases hi : i < ds.length
  · rw [List.getElem?_append_left (by simpa using hi), List.getElem?_map] at e
    obtain ⟨d', e1, e2⟩ := Option.map_eq_some_iff.mp e
    cases e2
    obtain ⟨v, ev, rv⟩ := r.get e1
    refine ⟨v, ?_, rv⟩
    rw [List.getElem?_append_left (by rw [List.length_map, ← r.length]; exact hi), List.getElem?_map, ev]
    rfl
  · rw [List.getElem?_append_right (by simpa using hi), List.getElem?_replicate] at e
    split at e <;> cases e
theorem fn_all {P : Program} {w : World} {K : PySem.W.Frag} {mg : Str → Option Value} {base : Heap} {tab : List FD} (hu : ∀ fd ∈ tab, findFD tab fd.name = some fd) (hT : ∀ fd ∈ tab, ∃ f dat, FdOk K mg fd f dat) (hb : ∀ x ∈ bltNames, mg x = none) :
    ∀ n, ∀ fd ∈ tab, ∀ f dat, FdOk K mg fd f dat → FnOk P w K mg base CX0 n f dat fd.ps (spF ⟨K, mg⟩ fd.ps.length (semF tab n fd.name)) := by
  intro n
  induction n with
  | zero =>
    intro fd hfd f dat F
    exact ⟨fun vs H Q E h => h.1, fun A outer s H args us vs Q E hr e0 hbi r h => by
      obtain ⟨_, μ, S, ds, w, rs, h⟩ := h
      exact h.elim⟩
  | succ n ih =>
    intro fd hfd f dat F
    refine F.fn.ok F.sc (fun vs H Q E h => h.1) (fun cdv A outer s H vs Q E hr h => ?_)
    obtain ⟨hl, μ, S, ds, w', rs, h⟩ := h
    unfold semF at h
    rw [hu fd hfd] at h
    have h : Post (match cBody (ccOf tab (semF tab n) fd) (defScope fd.st) (defBody fd.st) with
      | some f => runB fd.ps.length fd.N f ds S
      | none => .bad) _ _ := h
    split at h
    · rename_i g eg
      have c : Cok (ccOf tab (semF tab n) fd) ⟨K, mg⟩ X0 (defScope fd.st) (fun _ => true) (cxOf CX0 P w K mg base fd.N fd.name (defScope fd.st) f cdv A outer s H E).nox := by
        refine ⟨rfl, F.sc.nd, rfl, F.sc.kind, rfl, rfl, rfl, fun _ _ => rfl, PassesOwn.never, hr.units, fun x hx => ?_, hb, F.glb⟩
        obtain ⟨fd', h1, h2⟩ := List.mem_map.mp hx
        subst h2
        obtain ⟨f', dat', F'⟩ := hT fd' h1
        have hnp : npOf tab fd'.name = fd'.ps.length := by unfold npOf; rw [hu fd' h1]
        refine ⟨CX0, n, f', dat', fd'.ps, ?_, hr, F'.at_, F'.fn.kp, F'.bi, pass0, fun _ _ _ _ _ q => q.elim, fun ds S hd => semF_len tab n _ ds S hd⟩
        show FnOk P w K mg base CX0 n f' dat' fd'.ps (spF ⟨K, mg⟩ (npOf tab fd'.name) (semF tab n fd'.name))
        rw [hnp]
        exact ih fd' h1 f' dat' F'
      have hB := cBlk_ok (fun st f h => cS_ok (cP_ok _ _ 30) c 30 st f h) eg
      refine ⟨_, hB, μ, S, ent fd.N ds, w', ent_R rs, ?_⟩
      unfold runB at h
      split at h
      · unfold finish at h
        refine (post_bnd.1 h).imp (fun fl S1 h1 H1 μ1 l1 w1 => ?_) fun e S1 z c d H' μ' l w r => r.elim
        cases fl with
        | nx env1 => exact fun σ1 er1 => h1 .non H1 μ1 l1 w1 .non
        | rt d => exact fun v r => h1 v H1 μ1 l1 w1 r
        | bk env1 => exact (show False from h1).elim
        | ct env1 => exact (show False from h1).elim
      · exact h.elim
    · exact h.elim
/-- what is asked of the law, over the script -/
def spTop (K : PySem.W.Frag) : Sp := fun vs H Q _ => ∃ (a : Addr) (ns : List Int), vs = [.ref a] ∧ ns.length ≤ 63 ∧ Only H ∧ SqL K H a (ns.map V.int) ∧ ∀ H', Q (.bl true) H'
/-- the law's function gives True at every script -/
def Gives (tab : List FD) (n : Nat) : Prop := ∀ ns : List Int, ns.length ≤ 63 → ∃ S', semF tab n "law" [.rol (ns.map D.int)] [] = .ok (.bl true) S'
theorem top_ok {P : Program} {w : World} {K : PySem.W.Frag} {mg : Str → Option Value} {base : Heap} {n : Nat} {f : Addr} {dat : FuncData} {ps : List Str} {tab : List FD} {np : Nat} (hnp : np = 1) (F : FnOk P w K mg base CX0 n f dat ps (spF ⟨K, mg⟩ np (semF tab n "law"))) (hg : Gives tab n) : FnOk P w K mg base CX0 n f dat ps (spTop K) :=
  F.imp fun vs H Q E h => by
    obtain ⟨a, ns, rfl, hl, hO, hS, q⟩ := h
    subst hnp
    have hF : SqF K H a (ns.map V.int) := by
      rcases hS with (hS | hS) | hS
      · rcases hO a with z | ⟨o, xs, z⟩
        · rw [z] at hS; cases hS
        · rw [z] at hS; cases hS
      · exact .inl hS
      · exact .inr hS
    obtain ⟨S', e⟩ := hg ns hl
    refine ⟨rfl, fun _ => none, [], [.rol (ns.map D.int)], ⟨fun n h => absurd h (Nat.not_lt_zero _), (fun n a h => nomatch h), (fun n m a h => nomatch h), (fun n a o h => nomatch h)⟩, .one (.rol hF (Rs.of_ints ns)), ?_⟩
    rw [e]
    exact fun v H' μ' l w r => by
      cases r
      exact q H'
end Bz
namespace Bz
open PySem PySem.Spec PyProof.Rows L2
/-- a body run at its arguments: so many parameters, so many names -/
def runL (np nl : Nat) (f : StM) : FnM := fun ds S => if ds.length = np then finish (f (ds.map some ++ List.replicate (nl - ds.length) none) S) else .bad
theorem sem_of {tab : List FD} {n : Nat} {x : Str} {fd : FD} {f : StM} (h1 : findFD tab x = some fd) (h2 : cBody (ccOf tab (semF tab n) fd) (defScope fd.st) (defBody fd.st) = some f) (ds : List D) (S : Sto) :
    semF tab (n + 1) x ds S = runL fd.ps.length fd.N.length f ds S := by
  show (match findFD tab x with
    | some fd => (match cBody (ccOf tab (semF tab n) fd) (defScope fd.st) (defBody fd.st) with
      | some f => runB fd.ps.length fd.N f ds S
      | none => .bad)
    | none => .bad) = _
  rw [h1]
  show (match cBody (ccOf tab (semF tab n) fd) (defScope fd.st) (defBody fd.st) with
      | some f => runB fd.ps.length fd.N f ds S
      | none => .bad) = _
  rw [h2]
  rfl
end Bz

set_option Elab.async false
set_option linter.all false
set_option maxRecDepth 100000
set_option maxHeartbeats 2000000
/-! Bz, twelfth part: what a run ends with (W), rule by rule. -/
namespace Bz
open PySem PySem.Spec PyProof.Rows L2
/-- it ends well, so -/
def W {α : Type} (r : Res α) (Q : α → Sto → Prop) : Prop := ∃ a S, r = .ok a S ∧ Q a S
section
variable {α β : Type} {S S1 : Sto} {env : Env} {Q : Rv → Sto → Prop} {fa fb fc : ExM}
theorem W.ok {a : α} {Q : α → Sto → Prop} (h : Q a S) : W (.ok a S) Q := ⟨a, S, rfl, h⟩
theorem W.bnd {r : Res α} {f : α → Sto → Res β} {Q : β → Sto → Prop} (h : W r fun a S => W (f a S) Q) : W (bnd r f) Q := by
  obtain ⟨a, S, rfl, b, S', e, q⟩ := h
  exact ⟨b, S', e, q⟩
theorem W.imp {r : Res α} {Q Q' : α → Sto → Prop} (h : W r Q) (k : ∀ a S, Q a S → Q' a S) : W r Q' := by
  obtain ⟨a, S, e, q⟩ := h
  exact ⟨a, S, e, k a S q⟩
theorem W.eq {r : Res α} {a : α} {S : Sto} {Q : α → Sto → Prop} (h : r = .ok a S) (q : Q a S) : W r Q := ⟨a, S, h, q⟩
theorem W.get {r : Res α} {Q : α → Sto → Prop} (h : W r Q) : ∃ a S, r = .ok a S ∧ Q a S := h
theorem W.noex {r : Res α} {Q : α → Sto → Prop} (h : W r Q) : W (noex r) Q := by
  obtain ⟨a, S, rfl, q⟩ := h
  exact ⟨a, S, rfl, q⟩
/-! ### how a run goes on -/
/-- by a truth -/
def BrQ (A B : Sto → Prop) : Bool → Sto → Prop := fun k S => (k = true → A S) ∧ (k = false → B S)
theorem br_b {A B : Sto → Prop} {k : Bool} (h1 : k = true → A S) (h2 : k = false → B S) : BrQ A B k S := ⟨h1, h2⟩
theorem br_d {A B : Sto → Prop} {p : Prop} [Decidable p] (h1 : p → A S) (h2 : ¬ p → B S) : BrQ A B (decide p) S := ⟨fun e => h1 (of_decide_eq_true e), fun e => h2 (of_decide_eq_false e)⟩
theorem br_t {A B : Sto → Prop} (h : A S) : BrQ A B true S := ⟨fun _ => h, fun e => nomatch e⟩
theorem br_f {A B : Sto → Prop} (h : B S) : BrQ A B false S := ⟨fun e => (nomatch e), fun _ => h⟩
theorem br_dt {A B : Sto → Prop} {p : Prop} [Decidable p] (hp : p) (h : A S) : BrQ A B (decide p) S := br_d (fun _ => h) fun q => absurd hp q
theorem br_df {A B : Sto → Prop} {p : Prop} [Decidable p] (hp : ¬ p) (h : B S) : BrQ A B (decide p) S := br_d (fun q => absurd q hp) fun _ => h
theorem br_n {A B : Sto → Prop} {k : Bool} (h : BrQ B A k S) : BrQ A B (!k) S := by
  cases k with
  | true => exact br_f (h.1 rfl)
  | false => exact br_t (h.2 rfl)
/-- a value that is a truth -/
def AsQ (Q : Bool → Sto → Prop) : Rv → Sto → Prop := fun x S1 => ∃ k, x = .val (.bl k) ∧ Q k S1
theorem as_q {Q : Bool → Sto → Prop} {k : Bool} (h : Q k S) : AsQ Q (.val (.bl k)) S := ⟨k, rfl, h⟩
/-- a value's truth -/
def TrQ (Q : Bool → Sto → Prop) : Rv → Sto → Prop := fun x S1 => ∃ k, truOf x S1 = some k ∧ Q k S1
theorem tr_q {Q : Bool → Sto → Prop} {x : Rv} {k : Bool} (e : truOf x S = some k) (h : Q k S) : TrQ Q x S := ⟨k, e, h⟩
def TrX (A B : Rv → Sto → Prop) : Rv → Sto → Prop := fun x S1 => ∃ k, truOf x S1 = some k ∧ BrQ (A x) (B x) k S1
theorem tx_q {A B : Rv → Sto → Prop} {x : Rv} {k : Bool} (e : truOf x S = some k) (h : BrQ (A x) (B x) k S) : TrX A B x S := ⟨k, e, h⟩
def DsQ (f : List D → Rv) (Q : Rv → Sto → Prop) : List D → Sto → Prop := fun ds S1 => ds.length ≤ big ∧ Q (f ds) S1
theorem dl_q {f : List D → Rv} {Q : Rv → Sto → Prop} {ds : List D} (h : ds.length ≤ big) (q : Q (f ds) S) : DsQ f Q ds S := ⟨h, q⟩
def IntQ (Q : Option Int → Sto → Prop) : Rv → Sto → Prop := fun x S1 => ∃ i, x = .val (.int i) ∧ Q (some i) S1
theorem int_q {Q : Option Int → Sto → Prop} {i : Int} (q : Q (some i) S) : IntQ Q (.val (.int i)) S := ⟨i, rfl, q⟩
def TyQ (t : Ty) (A : Rv → Sto → Prop) : Rv → Sto → Prop := fun x S1 => tyOf x S1 = some t ∧ A x S1
theorem ty_q {t : Ty} {A : Rv → Sto → Prop} {x : Rv} (h : tyOf x S = some t) (q : A x S) : TyQ t A x S := ⟨h, q⟩
theorem ty_loc {n : Nat} {xs : List D} (h : S[n]? = some (.lst xs)) : tyOf (.val (.loc n)) S = some .list := by
  unfold tyOf
  simp only [h]
def SrcQ (Q : List D × Gs → Sto → Prop) : Rv → Sto → Prop := fun x S1 => ∃ s, srcOf x S1 = some s ∧ Q s S1
theorem src_q {Q : List D × Gs → Sto → Prop} {x : Rv} {s : List D × Gs} (e : srcOf x S = some s) (q : Q s S) : SrcQ Q x S := ⟨s, e, q⟩
theorem src_loc {n : Nat} {xs : List D} (h : S[n]? = some (.lst xs)) : srcOf (.val (.loc n)) S = some (xs, [(n, xs)]) := by
  unfold srcOf
  simp only [h]
theorem seq_loc {n : Nat} {xs : List D} (h : S[n]? = some (.lst xs)) : seqOf (.val (.loc n)) S = some xs := by
  unfold seqOf
  simp only [h]
theorem lrd_loc {n : Nat} {xs : List D} (h : S[n]? = some (.lst xs)) : lrdOf (.val (.loc n)) S = some xs := by
  unfold lrdOf
  simp only [h]
theorem lst_loc {n : Nat} {xs : List D} (h : S[n]? = some (.lst xs)) : lstOf (.val (.loc n)) S = some xs := by
  unfold lstOf
  simp only [h]
/-! ### expressions -/
theorem w_nm {i : Nat} {d : D} (h : env[i]? = some (some d)) (q : Q (.val d) S) : W (eNm i env S) Q := by
  unfold eNm
  rw [h]
  exact .ok q
theorem w_c {d : D} (q : Q (.val d) S) : W (eC d env S) Q := .ok q
theorem w_un {g : Rv → Sto → Res Rv} (h : W (fa env S) fun x S1 => W (g x S1) Q) : W (eUn g fa env S) Q := .bnd h
theorem w_bin {g : Rv → Rv → Sto → Res Rv} (h : W (fa env S) fun x S1 => W (fb env S1) fun y S2 => W (g x y S2) Q) : W (eBin g fa fb env S) Q := .bnd (h.imp fun _ _ q => .bnd q)
theorem w_chain {g g' : Rv → Rv → Sto → Res Rv} (h : W (fa env S) fun x S1 => W (fb env S1) fun y S2 => W (g x y S2) (AsQ (BrQ (fun S3 => W (fc env S3) fun u S4 => W (g' y u S4) Q) fun S3 => Q (.val (.bl false)) S3))) : W (eChain g g' fa fb fc env S) Q := by
  refine .bnd (h.imp fun x S1 h => .bnd (h.imp fun y S2 h => .bnd (h.imp fun z S3 h => ?_)))
  obtain ⟨k, rfl, h1, h2⟩ := h
  cases k with
  | true => exact .bnd (h1 rfl)
  | false => exact .ok (h2 rfl)
theorem w_asB {Q : Bool → Sto → Prop} (h : W (fa env S) (AsQ Q)) : W (asB fa env S) Q := by
  refine .bnd (h.imp fun x S1 h => ?_)
  obtain ⟨k, rfl, q⟩ := h
  exact .ok q
theorem w_tru {Q : Bool → Sto → Prop} (h : W (fa env S) (TrQ Q)) : W (tru fa env S) Q := by
  refine .bnd (h.imp fun x S1 h => ?_)
  obtain ⟨k, e, q⟩ := h
  show W (match truOf x S1 with
    | some b => .ok b S1
    | none => .bad) Q
  rw [e]
  exact .ok q
theorem w_tsAnd {f g : TsM} {Q : Bool → Sto → Prop} (h : W (f env S) (BrQ (fun S1 => W (g env S1) Q) fun S1 => Q false S1)) : W (tsAnd f g env S) Q := by
  refine .bnd (h.imp fun k S1 h => ?_)
  cases k with
  | true => exact h.1 rfl
  | false => exact .ok (h.2 rfl)
theorem w_tsOr {f g : TsM} {Q : Bool → Sto → Prop} (h : W (f env S) (BrQ (fun S1 => Q true S1) fun S1 => W (g env S1) Q)) : W (tsOr f g env S) Q := by
  refine .bnd (h.imp fun k S1 h => ?_)
  cases k with
  | true => exact .ok (h.1 rfl)
  | false => exact h.2 rfl
theorem w_tsNot {f : TsM} {Q : Bool → Sto → Prop} (h : W (f env S) fun k S1 => Q (!k) S1) : W (tsNot f env S) Q := .bnd (h.imp fun _ _ q => .ok q)
theorem w_tsYes {Q : Bool → Sto → Prop} (h : Q true S) : W (tsYes env S) Q := .ok h
theorem w_and (h : W (fa env S) (TrX (fun _ S1 => W (fb env S1) Q) fun x S1 => Q x S1)) : W (eAnd fa fb env S) Q := by
  refine .bnd (h.imp fun x S1 h => ?_)
  obtain ⟨k, e, h1, h2⟩ := h
  show W (match truOf x S1 with
    | some true => fb env S1
    | some false => .ok x S1
    | none => .bad) Q
  rw [e]
  cases k with
  | true => exact h1 rfl
  | false => exact .ok (h2 rfl)
theorem w_or (h : W (fa env S) (TrX (fun x S1 => Q x S1) fun _ S1 => W (fb env S1) Q)) : W (eOr fa fb env S) Q := by
  refine .bnd (h.imp fun x S1 h => ?_)
  obtain ⟨k, e, h1, h2⟩ := h
  show W (match truOf x S1 with
    | some true => .ok x S1
    | some false => fb env S1
    | none => .bad) Q
  rw [e]
  cases k with
  | true => exact .ok (h1 rfl)
  | false => exact h2 rfl
theorem w_not (h : W (fa env S) (TrQ fun k S1 => Q (.val (.bl (!k))) S1)) : W (eNot fa env S) Q := by
  refine .bnd (h.imp fun x S1 h => ?_)
  obtain ⟨k, e, q⟩ := h
  show W (match truOf x S1 with
    | some k => .ok (.val (.bl (!k))) S1
    | none => .bad) Q
  rw [e]
  exact .ok q
theorem w_eIf {t : TsM} (h : W (t env S) (BrQ (fun S1 => W (fa env S1) Q) fun S1 => W (fb env S1) Q)) : W (eIf t fa fb env S) Q := by
  refine .bnd (h.imp fun k S1 h => ?_)
  cases k with
  | true => exact h.1 rfl
  | false => exact h.2 rfl
theorem w_aNil {Q : List D → Sto → Prop} (h : Q [] S) : W (aNil env S) Q := .ok h
theorem w_stlV {d : D} {Q : D → Sto → Prop} (h : Q d S) : W (stl (.val d) S) Q := .ok h
theorem w_stlN {xs : List D} {Q : D → Sto → Prop} (h : Q (.loc S.length) (S ++ [.lst xs])) : W (stl (.new xs) S) Q := .ok h
theorem w_aCons {ga : ArM} {Q : List D → Sto → Prop} (h : W (fa env S) fun x S1 => W (stl x S1) fun d S2 => W (ga env S2) fun ds S3 => Q (d :: ds) S3) : W (aCons fa ga env S) Q :=
  .bnd (h.imp fun _ _ h => .bnd (h.imp fun _ _ h => .bnd (h.imp fun _ _ q => .ok q)))
theorem w_eTup {ga : ArM} (h : W (ga env S) (DsQ (fun ds => .val (.tup ds)) Q)) : W (eTup ga env S) Q := .bnd (h.imp fun ds S1 h => by rw [if_pos h.1]; exact .ok h.2)
theorem w_eLst {ga : ArM} (h : W (ga env S) (DsQ .new Q)) : W (eLst ga env S) Q := .bnd (h.imp fun ds S1 h => by rw [if_pos h.1]; exact .ok h.2)
theorem w_call {g : FnM} {ga : ArM} (h : W (ga env S) fun ds S1 => W (g ds S1) fun d S2 => Q (.val d) S2) : W (eCall g ga env S) Q := .bnd (h.imp fun _ _ h => .bnd (h.imp fun _ _ q => .ok q))
theorem w_eSl {p1 p2 : Env → Sto → Res (Option Int)} (h : W (fa env S) fun x S1 => W (p1 env S1) fun lo S2 => W (p2 env S2) fun hi S3 => W (slV x lo hi S3) Q) : W (eSl fa p1 p2 env S) Q := .bnd (h.imp fun _ _ h => .bnd (h.imp fun _ _ h => .bnd h))
theorem w_ptNo {Q : Option Int → Sto → Prop} (h : Q none S) : W (ptNo env S) Q := .ok h
theorem w_ptI {Q : Option Int → Sto → Prop} (h : W (fa env S) (IntQ Q)) : W (ptI fa env S) Q := by
  refine .bnd (h.imp fun x S1 h => ?_)
  obtain ⟨i, rfl, q⟩ := h
  exact .ok q
theorem w_m1 {t : Ty} {g : Rv → D → Sto → Res Rv} {fo : ExM} (h : W (fo env S) (TyQ t fun x S1 => W (fa env S1) fun y S2 => W (stl y S2) fun d S3 => W (g x d S3) Q)) : W (eM1 t g fo fa env S) Q :=
  .bnd (h.imp fun _ _ h => by rw [if_pos h.1]; exact .bnd (h.2.imp fun _ _ h => .bnd h))
theorem w_m2 {t : Ty} {g : Rv → D → D → Sto → Res Rv} {fo : ExM} (h : W (fo env S) (TyQ t fun x S1 => W (fa env S1) fun y S2 => W (stl y S2) fun d S3 => W (fb env S3) fun z S4 => W (stl z S4) fun e S5 => W (g x d e S5) Q)) : W (eM2 t g fo fa fb env S) Q :=
  .bnd (h.imp fun _ _ h => by rw [if_pos h.1]; exact .bnd (h.2.imp fun _ _ h => .bnd (h.imp fun _ _ h => .bnd (h.imp fun _ _ h => .bnd h))))
/-! ### operations -/
theorem w_addI {i j : Int} (q : Q (.val (.int (i + j))) S) : W (addV (.val (.int i)) (.val (.int j)) S) Q := .ok q
theorem w_subI {i j : Int} (q : Q (.val (.int (i - j))) S) : W (subV (.val (.int i)) (.val (.int j)) S) Q := .ok q
theorem w_mulI {i j : Int} (h : (-(2 ^ 64) < i ∧ i < 2 ^ 64) ∨ (-(2 ^ 64) < j ∧ j < 2 ^ 64)) (q : Q (.val (.int (i * j))) S) : W (mulV (.val (.int i)) (.val (.int j)) S) Q := by
  have : cMul i j = true := by
    unfold cMul
    simp only [Bool.or_eq_true, Bool.and_eq_true, decide_eq_true_eq]
    exact h
  show W (if cMul i j = true then _ else _) Q
  rw [if_pos this]
  exact .ok q
theorem w_divI {i j : Int} (h : 0 < j) (h2 : j < 2 ^ 200) (q : Q (.val (.int (i / j))) S) : W (divV (.val (.int i)) (.val (.int j)) S) Q := by
  have : cDiv i j = true := by
    unfold cDiv
    simp only [Bool.and_eq_true, decide_eq_true_eq]
    exact ⟨h, h2⟩
  show W (if cDiv i j = true then _ else _) Q
  rw [if_pos this]
  exact .ok q
theorem w_modI {i j : Int} (h : 0 < j) (q : Q (.val (.int (i % j))) S) : W (modV (.val (.int i)) (.val (.int j)) S) Q := by
  show W (if cMod i j = true then _ else _) Q
  rw [if_pos (show cMod i j = true from decide_eq_true h)]
  exact .ok q
theorem w_powI {i j : Int} (h : cPow i j = true) (q : Q (.val (.int (i ^ j.toNat))) S) : W (powV (.val (.int i)) (.val (.int j)) S) Q := by
  show W (if cPow i j = true then _ else _) Q
  rw [if_pos h]
  exact .ok q
theorem w_ltI {i j : Int} (q : Q (.val (.bl (decide (i < j)))) S) : W (ltV (.val (.int i)) (.val (.int j)) S) Q := .ok q
theorem w_leI {i j : Int} (q : Q (.val (.bl (decide (i ≤ j)))) S) : W (leV (.val (.int i)) (.val (.int j)) S) Q := .ok q
theorem w_gtI {i j : Int} (q : Q (.val (.bl (decide (j < i)))) S) : W (gtV (.val (.int i)) (.val (.int j)) S) Q := .ok q
theorem w_geI {i j : Int} (q : Q (.val (.bl (decide (j ≤ i)))) S) : W (geV (.val (.int i)) (.val (.int j)) S) Q := .ok q
theorem w_eq {x y : Rv} {b : Bool} (h : eqOf x y S = some b) (q : Q (.val (.bl b)) S) : W (eqV' x y S) Q := by
  unfold eqV'
  rw [h]
  exact .ok q
theorem w_ne {x y : Rv} {b : Bool} (h : eqOf x y S = some b) (q : Q (.val (.bl (!b))) S) : W (neV' x y S) Q := by
  unfold neV'
  rw [h]
  exact .ok q
theorem w_eqI {i j : Int} (q : Q (.val (.bl (decide (i = j)))) S) : W (eqV' (.val (.int i)) (.val (.int j)) S) Q := w_eq (b := i == j) rfl (by rw [show (i == j) = decide (i = j) from rfl]; exact q)
theorem w_neI {i j : Int} (q : Q (.val (.bl (!decide (i = j)))) S) : W (neV' (.val (.int i)) (.val (.int j)) S) Q := w_ne (b := i == j) rfl (by rw [show (i == j) = decide (i = j) from rfl]; exact q)
theorem w_eqS {i j : Str} (q : Q (.val (.bl (decide (i = j)))) S) : W (eqV' (.val (.str i)) (.val (.str j)) S) Q := w_eq (b := i == j) rfl (by rw [show (i == j) = decide (i = j) by rw [Bool.beq_eq_decide_eq]]; exact q)
theorem w_neS {i j : Str} (q : Q (.val (.bl (!decide (i = j)))) S) : W (neV' (.val (.str i)) (.val (.str j)) S) Q := w_ne (b := i == j) rfl (by rw [show (i == j) = decide (i = j) by rw [Bool.beq_eq_decide_eq]]; exact q)
theorem w_is {x y : Rv} {b : Bool} (h : isOf x y = some b) (q : Q (.val (.bl b)) S) : W (isV' x y S) Q := by
  unfold isV'
  rw [h]
  exact .ok q
theorem w_isnot {x y : Rv} {b : Bool} (h : isOf x y = some b) (q : Q (.val (.bl (!b))) S) : W (isNotV' x y S) Q := by
  unfold isNotV'
  rw [h]
  exact .ok q
theorem w_in {x y : Rv} {b : Bool} (h : inOf x y S = some b) (q : Q (.val (.bl b)) S) : W (inV' x y S) Q := by
  unfold inV'
  rw [h]
  exact .ok q
theorem w_notin {x y : Rv} {b : Bool} (h : inOf x y S = some b) (q : Q (.val (.bl (!b))) S) : W (notInV' x y S) Q := by
  unfold notInV'
  rw [h]
  exact .ok q
theorem w_ixT {xs : List D} {k : Int} {d : D} (h : atI xs k = some d) (q : Q (.val d) S) : W (ixV (.val (.tup xs)) (.val (.int k)) S) Q := by
  show W (match atI xs k with
    | some d => Res.ok (Rv.val d) S
    | none => .bad) Q
  rw [h]
  exact .ok q
theorem w_ixR {xs : List D} {k : Int} {d : D} (h : atI xs k = some d) (q : Q (.val d) S) : W (ixV (.val (.rol xs)) (.val (.int k)) S) Q := by
  show W (match atI xs k with
    | some d => Res.ok (Rv.val d) S
    | none => .bad) Q
  rw [h]
  exact .ok q
theorem w_ixN {xs : List D} {k : Int} {d : D} (h : atI xs k = some d) (q : Q (.val d) S) : W (ixV (.new xs) (.val (.int k)) S) Q := by
  show W (match atI xs k with
    | some d => Res.ok (Rv.val d) S
    | none => .bad) Q
  rw [h]
  exact .ok q
theorem w_ixL {n : Nat} {xs : List D} {k : Int} {d : D} (h0 : S[n]? = some (.lst xs)) (h : atI xs k = some d) (q : Q (.val d) S) : W (ixV (.val (.loc n)) (.val (.int k)) S) Q := by
  unfold ixV seqOf
  simp only [h0, h]
  exact .ok q
theorem w_len {x : Rv} {xs : List D} (hs : seqOf x S = some xs) (q : Q (.val (.int xs.length)) S) : W (lenV x S) Q := by
  have : lenV x S = .ok (.val (.int xs.length)) S := by
    unfold lenV
    cases x with
    | new ys => simp only [hs]
    | val d => cases d <;> first | (simp only [hs]; done) | (simp [seqOf] at hs)
  rw [this]
  exact .ok q
theorem w_max {i j : Int} (q : Q (.val (.int (max i j))) S) : W (maxV (.val (.int i)) (.val (.int j)) S) Q := by
  refine .eq (a := .val (.int (max i j))) (S := S) ?_ q
  show (Res.ok (Rv.val (D.int (if j > i then j else i))) S) = _
  rw [show (if j > i then j else i) = max i j by rw [Int.max_def]; split <;> split <;> omega]
theorem w_min {i j : Int} (q : Q (.val (.int (min i j))) S) : W (minV (.val (.int i)) (.val (.int j)) S) Q := by
  refine .eq (a := .val (.int (min i j))) (S := S) ?_ q
  show (Res.ok (Rv.val (D.int (if j < i then j else i))) S) = _
  rw [show (if j < i then j else i) = min i j by rw [Int.min_def]; split <;> split <;> omega]
theorem w_abs {i : Int} (q : Q (.val (.int (if i < 0 then -i else i))) S) : W (absI (.val (.int i)) S) Q := .ok q
theorem w_neg {i : Int} (q : Q (.val (.int (-i))) S) : W (negV (.val (.int i)) S) Q := .ok q
theorem w_sum {x : Rv} {ns : List Int} (h : (lrdOf x S).bind intsOf = some ns) (q : Q (.val (.int ns.sum)) S) : W (sumV x S) Q := by
  unfold sumV
  rw [h]
  exact .ok q
theorem w_all {x : Rv} {ns : List Bool} (h : (lrdOf x S).bind blsOf = some ns) (q : Q (.val (.bl (ns.all id))) S) : W (allV x S) Q := by
  unfold allV
  rw [h]
  exact .ok q
theorem w_list {x : Rv} {xs : List D} (h : seqOf x S = some xs) (q : Q (.new xs) S) : W (listV x S) Q := by
  unfold listV
  rw [h]
  exact .ok q
theorem w_tupleL {x : Rv} {xs : List D} (h : lrdOf x S = some xs) (q : Q (.val (.tup xs)) S) : W (tupleV x S) Q := by
  have : tupleV x S = .ok (.val (.tup xs)) S := by
    unfold tupleV
    cases x with
    | new ys => simp only [h]
    | val d => cases d <;> first | (simp only [h]; done) | (simp [lrdOf] at h)
  rw [this]
  exact .ok q
theorem w_tupleT {xs : List D} (q : Q (.val (.tup xs)) S) : W (tupleV (.val (.tup xs)) S) Q := .ok q
theorem w_isi {T t : Ty} {x : Rv} (h : tyOf x S = some t) (q : Q (.val (.bl (isi t T))) S) : W (isiV T x S) Q := by
  unfold isiV
  rw [h]
  exact .ok q
theorem w_slT {xs : List D} {lo hi : Option Int} (q : Q (.val (.tup (cutD xs lo hi))) S) : W (slV (.val (.tup xs)) lo hi S) Q := .ok q
theorem w_slL {x : Rv} {xs : List D} {lo hi : Option Int} (h : lrdOf x S = some xs) (q : Q (.new (cutD xs lo hi)) S) : W (slV x lo hi S) Q := by
  have : slV x lo hi S = .ok (.new (cutD xs lo hi)) S := by
    unfold slV
    cases x with
    | new ys => simp only [h]
    | val d => cases d <;> first | (simp only [h]; done) | (simp [lrdOf] at h)
  rw [this]
  exact .ok q
theorem w_append {n : Nat} {xs : List D} {d : D} (h0 : S[n]? = some (.lst xs)) (hz : xs.length < big) (q : Q (.val .non) (S.set n (.lst (xs ++ [d])))) : W (mApp1 (.val (.loc n)) d S) Q := by
  unfold mApp1 mAppend chg
  simp only [h0, if_pos hz]
  exact .ok q
theorem w_catL {x y : Rv} {xs ys : List D} (h1 : lstOf x S = some xs) (h2 : lstOf y S = some ys) (hz : xs.length + ys.length ≤ big) (q : Q (.new (xs ++ ys)) S) : W (addV x y S) Q := by
  have : addV x y S = .ok (.new (xs ++ ys)) S := by
    unfold addV
    cases x with
    | new z => simp only [h1, h2, if_pos hz]
    | val d => cases d <;> first | (simp only [h1, h2, if_pos hz]; done) | (simp [lstOf] at h1)
  rw [this]
  exact .ok q
theorem w_catT {xs ys : List D} (hz : xs.length + ys.length ≤ big) (q : Q (.val (.tup (xs ++ ys))) S) : W (addV (.val (.tup xs)) (.val (.tup ys)) S) Q := by
  show W (if xs.length + ys.length ≤ big then _ else _) Q
  rw [if_pos hz]
  exact .ok q
end
/-! ### sources -/
section
variable {S S1 : Sto} {env : Env} {fa fb : ExM} {Q : List D × Gs → Sto → Prop}
theorem w_srV {f : ExM} (h : W (f env S) (SrcQ Q)) : W (srV f env S) Q := by
  refine .bnd (h.imp fun x S1 h => ?_)
  obtain ⟨s, e, q⟩ := h
  show W (match srcOf x S1 with
    | some s => .ok s S1
    | none => .bad) Q
  rw [e]
  exact .ok q
theorem w_srA (h : W (fa env S) (SrcQ Q)) : W (srA fa env S) Q := by
  refine .bnd (h.imp fun x S1 h => ?_)
  obtain ⟨s, e, q⟩ := h
  cases x with
  | new ys => simp only [e]; exact .ok q
  | val d => cases d <;> first | (simp only [e]; exact .ok q) | (simp [srcOf] at e)
theorem w_srAs {z : Str} (h : W (fa env S) fun x S1 => x = .val (.str z) ∧ Q (signs z, []) S1) : W (srA fa env S) Q := by
  refine .bnd (h.imp fun x S1 h => ?_)
  obtain ⟨rfl, q⟩ := h
  exact .ok q
theorem w_srR1 (h : W (fa env S) fun x S1 => ∃ j, x = .val (.int j) ∧ (-(2 ^ 60) ≤ j ∧ j < 2 ^ 60) ∧ Q (rngI 0 j.toNat, []) S1) : W (srR1 fa env S) Q := by
  refine .bnd (h.imp fun x S1 h => ?_)
  obtain ⟨j, rfl, hj, q⟩ := h
  show W (if -(2 ^ 60) ≤ j ∧ j < 2 ^ 60 then _ else _) Q
  rw [if_pos hj]
  exact .ok q
theorem w_srR2 (h : W (fa env S) fun x S1 => W (fb env S1) fun y S2 => ∃ i j, x = .val (.int i) ∧ y = .val (.int j) ∧ ((-(2 ^ 60) ≤ i ∧ i < 2 ^ 60) ∧ -(2 ^ 60) ≤ j ∧ j < 2 ^ 60) ∧ Q (rngI i (j - i).toNat, []) S2) : W (srR2 fa fb env S) Q := by
  refine .bnd (h.imp fun x S1 h => .bnd (h.imp fun y S2 h => ?_))
  obtain ⟨i, j, rfl, rfl, hj, q⟩ := h
  show W (if (-(2 ^ 60) ≤ i ∧ i < 2 ^ 60) ∧ -(2 ^ 60) ≤ j ∧ j < 2 ^ 60 then _ else _) Q
  rw [if_pos hj]
  exact .ok q
theorem w_srZ (h : W (fa env S) fun x S1 => W (fb env S1) fun y S2 => ∃ s t, srcOf x S2 = some s ∧ srcOf y S2 = some t ∧ isTup x = isTup y ∧ Q (zipD s.1 t.1, s.2 ++ t.2) S2) : W (srZ fa fb env S) Q := by
  refine .bnd (h.imp fun x S1 h => .bnd (h.imp fun y S2 h => ?_))
  obtain ⟨s, t, e1, e2, e3, q⟩ := h
  simp only [e1, e2, if_pos e3]
  exact .ok q
end
/-! ### statements -/
section
variable {S S1 : Sto} {env : Env} {fe fa fb : ExM} {f g : StM} {Q : Fl → Sto → Prop}
theorem w_sNil (h : Q (.nx env) S) : W (sNil env S) Q := .ok h
/-- what follows in a block -/
def SeqQ (g : StM) (Q : Fl → Sto → Prop) : Fl → Sto → Prop := fun fl S1 => match fl with
    | .nx env1 => W (g env1 S1) Q
    | fl => Q fl S1
theorem sq_nx (h : W (g env S) Q) : SeqQ g Q (.nx env) S := h
theorem sq_rt {d : D} (h : Q (.rt d) S) : SeqQ g Q (.rt d) S := h
theorem sq_bk (h : Q (.bk env) S) : SeqQ g Q (.bk env) S := h
theorem sq_ct (h : Q (.ct env) S) : SeqQ g Q (.ct env) S := h
theorem w_sSeq (h : W (f env S) (SeqQ g Q)) : W (sSeq f g env S) Q := by
  refine .bnd (h.imp fun fl S1 h => ?_)
  cases fl with
  | nx env1 => exact h
  | rt d => exact .ok h
  | bk e => exact .ok h
  | ct e => exact .ok h
theorem w_sPass (h : Q (.nx env) S) : W (sPass env S) Q := .ok h
theorem w_sBreak (h : Q (.bk env) S) : W (sBreak env S) Q := .ok h
theorem w_sCont (h : Q (.ct env) S) : W (sCont env S) Q := .ok h
theorem w_sExpr (h : W (fe env S) fun _ S1 => Q (.nx env) S1) : W (sExpr fe env S) Q := .bnd (h.imp fun _ _ q => .ok q)
theorem w_sRet (h : W (fe env S) fun x S1 => W (stl x S1) fun d S2 => Q (.rt d) S2) : W (sRet fe env S) Q := .bnd (h.imp fun _ _ h => .bnd (h.imp fun _ _ q => .ok q))
theorem w_sRetN (h : Q (.rt .non) S) : W (sRetN env S) Q := .ok h
theorem w_sIf {t : TsM} (h : W (t env S) (BrQ (fun S1 => W (f env S1) Q) fun S1 => W (g env S1) Q)) : W (sIf t f g env S) Q := by
  refine .bnd (h.imp fun k S1 h => ?_)
  cases k with
  | true => exact h.1 rfl
  | false => exact h.2 rfl
theorem w_sAsg {tg : TgM} (h : W (fe env S) fun x S1 => W (stl x S1) fun d S2 => W (tg d env S2) fun env1 S3 => Q (.nx env1) S3) : W (sAsg fe tg env S) Q := .bnd (h.imp fun _ _ h => .bnd (h.imp fun _ _ h => .bnd (h.imp fun _ _ q => .ok q)))
theorem w_gNm {i : Nat} {d : D} {Q : Env → Sto → Prop} (hi : i < env.length) (h : Q (env.set i (some d)) S) : W (gNm i d env S) Q := by
  unfold gNm
  rw [if_pos hi]
  exact .ok h
theorem w_gsNil {Q : Env → Sto → Prop} (h : Q env S) : W (gsNil [] env S) Q := .ok h
theorem w_gsCons {f : TgM} {g : TgsM} {d : D} {ds : List D} {Q : Env → Sto → Prop} (h : W (f d env S) fun env1 S1 => W (g ds env1 S1) Q) : W (gsCons f g (d :: ds) env S) Q := .bnd h
theorem w_gTp {n : Nat} {g : TgsM} {ds : List D} {Q : Env → Sto → Prop} (hn : ds.length = n) (h : W (g ds env S) Q) : W (gTp n g (.tup ds) env S) Q := by
  show W (if ds.length = n then _ else _) Q
  rw [if_pos hn]
  exact h
theorem w_gSb {st : Rv → Rv → D → Sto → Res Unit} {fo fi : ExM} {d : D} {Q : Env → Sto → Prop} (h : W (fo env S) fun o S1 => W (fi env S1) fun i S2 => W (st o i d S2) fun _ S3 => Q env S3) : W (gSb st fo fi d env S) Q := .bnd (h.imp fun _ _ h => .bnd (h.imp fun _ _ h => .bnd (h.imp fun _ _ q => .ok q)))
theorem w_setL {n : Nat} {k : Int} {j : Nat} {d : D} {xs : List D} {Q : Unit → Sto → Prop} (h0 : S[n]? = some (.lst xs)) (hj : ixN xs.length k = some j) (q : Q () (S.set n (.lst (xs.set j d)))) : W (setL (.val (.loc n)) (.val (.int k)) d S) Q := by
  unfold setL
  simp only [h0, hj]
  exact .ok q
theorem w_sPar2 {i j : Nat} {ga : ArM} (h : W (ga env S) fun ds S1 => ∃ d e, ds = [d, e] ∧ (i < env.length ∧ j < env.length) ∧ Q (.nx ((env.set i (some d)).set j (some e))) S1) : W (sPar2 i j ga env S) Q := by
  refine .bnd (h.imp fun ds S1 h => ?_)
  obtain ⟨d, e, rfl, hi, q⟩ := h
  show W (if i < env.length ∧ j < env.length then _ else _) Q
  rw [if_pos hi]
  exact .ok q
theorem w_sPar3 {i j l : Nat} {ga : ArM} (h : W (ga env S) fun ds S1 => ∃ d e f, ds = [d, e, f] ∧ (i < env.length ∧ j < env.length ∧ l < env.length) ∧ Q (.nx (((env.set i (some d)).set j (some e)).set l (some f))) S1) : W (sPar3 i j l ga env S) Q := by
  refine .bnd (h.imp fun ds S1 h => ?_)
  obtain ⟨d, e, f, rfl, hi, q⟩ := h
  show W (if i < env.length ∧ j < env.length ∧ l < env.length then _ else _) Q
  rw [if_pos hi]
  exact .ok q
theorem w_sAug {i : Nat} {op : Rv → Rv → Sto → Res Rv} {d : D} (hd : env[i]? = some (some d)) (h : W (fe env S) fun y S1 => W (op (.val d) y S1) fun z S2 => W (stl z S2) fun d2 S3 => Q (.nx (env.set i (some d2))) S3) : W (sAug i op fe env S) Q := by
  have hi : i < env.length := by
    rcases Nat.lt_or_ge i env.length with z | z
    · exact z
    · rw [List.getElem?_eq_none z] at hd; cases hd
  unfold sAug
  simp only [hd, if_pos hi]
  exact .bnd (h.imp fun _ _ h => .bnd (h.imp fun _ _ h => .bnd (h.imp fun _ _ q => .ok q)))
theorem w_iaddI {i j : Int} {Q : Rv → Sto → Prop} (q : Q (.val (.int (i + j))) S) : W (iaddV (.val (.int i)) (.val (.int j)) S) Q := .ok q
theorem w_finish {r : Res Fl} {Q : D → Sto → Prop} (h : W r fun fl S => match fl with
    | .rt d => Q d S
    | .nx _ => Q .non S
    | _ => False) : W (finish r) Q := by
  refine .bnd (h.imp fun fl S h => ?_)
  cases fl with
  | rt d => exact .ok h
  | nx e => exact .ok h
  | bk e => exact h.elim
  | ct e => exact h.elim
/-- what follows a def's body -/
def FinQ (Q : D → Sto → Prop) : Fl → Sto → Prop := fun fl S => match fl with
    | .rt d => Q d S
    | .nx _ => Q .non S
    | _ => False
theorem fq_rt {Q : D → Sto → Prop} {d : D} (h : Q d S) : FinQ Q (.rt d) S := h
theorem fq_nx {Q : D → Sto → Prop} (h : Q .non S) : FinQ Q (.nx env) S := h
theorem w_runL {np nl : Nat} {ds : List D} {Q : D → Sto → Prop} (hn : ds.length = np) (h : W (f (ds.map some ++ List.replicate (nl - ds.length) none) S) (FinQ Q)) : W (runL np nl f ds S) Q := by
  unfold runL
  rw [if_pos hn]
  exact w_finish h
/-- what follows a loop's turn -/
def TurnQ (I : Env → Sto → Prop) (Q : Fl → Sto → Prop) : Fl → Sto → Prop := fun fl S2 => match fl with
      | .nx env2 => I env2 S2
      | .ct env2 => I env2 S2
      | .bk env2 => Q (.nx env2) S2
      | .rt d => Q (.rt d) S2
theorem tq_nx {I : Env → Sto → Prop} (h : I env S) : TurnQ I Q (.nx env) S := h
theorem tq_ct {I : Env → Sto → Prop} (h : I env S) : TurnQ I Q (.ct env) S := h
theorem tq_bk {I : Env → Sto → Prop} (h : Q (.nx env) S) : TurnQ I Q (.bk env) S := h
theorem tq_rt {I : Env → Sto → Prop} {d : D} (h : Q (.rt d) S) : TurnQ I Q (.rt d) S := h
/-- a for, by what holds ahead of each turn -/
theorem w_forGo {gs : Gs} {tg : TgM} {body : StM} {items : List D} (I : Nat → Env → Sto → Prop) (h0 : I 0 env S)
    (hs : ∀ i x env S, items[i]? = some x → I i env S → gok gs S = true ∧ W (tg x env S) fun env1 S1 => W (body env1 S1) (TurnQ (I (i + 1)) Q))
    (hd : ∀ env S, I items.length env S → gok gs S = true ∧ Q (.nx env) S) : W (forGo gs tg body items env S) Q := by
  have key : ∀ (m i : Nat) (env : Env) (S : Sto), items.length - i = m → i ≤ items.length → I i env S → W (forGo gs tg body (items.drop i) env S) Q := by
    intro m
    induction m with
    | zero =>
      intro i env S hm hi hI
      have : i = items.length := by omega
      subst this
      rw [List.drop_length]
      obtain ⟨g, q⟩ := hd env S hI
      unfold forGo
      rw [if_pos g]
      exact .ok q
    | succ m ih =>
      intro i env S hm hi hI
      have hlt : i < items.length := by omega
      rw [List.drop_eq_getElem_cons hlt]
      obtain ⟨g, h⟩ := hs i items[i] env S (List.getElem?_eq_getElem hlt) hI
      unfold forGo
      rw [if_pos g]
      refine .bnd (h.imp fun env1 S1 h => .bnd (h.imp fun fl S2 h => ?_))
      cases fl with
      | nx e => exact ih (i + 1) e S2 (by omega) (by omega) h
      | ct e => exact ih (i + 1) e S2 (by omega) (by omega) h
      | bk e => exact .ok h
      | rt d => exact .ok h
  have := key items.length 0 env S (by omega) (Nat.zero_le _) h0
  rwa [List.drop_zero] at this
theorem w_sFor {src : SrM} {tg : TgM} {body : StM} (h : W (src env S) fun s S1 => W (forGo s.2 tg body s.1 env S1) Q) : W (sFor src tg body env S) Q := .bnd h
/-- a comprehension, by what holds ahead of each turn -/
theorem w_lcGo {gs : Gs} {tg : TgM} {ts : TsM} {items : List D} {env0 : Env} {Q : List D → Sto → Prop} (I : Nat → List D → Sto → Prop) (h0 : I 0 [] S)
    (hs : ∀ i x acc S, items[i]? = some x → I i acc S → gok gs S = true ∧ W (tg x env0 S) fun env1 S1 => W (ts env1 S1) (BrQ (fun S2 => W (fe env1 S2) fun y S3 => W (stl y S3) fun d S4 => I (i + 1) (acc ++ [d]) S4) fun S2 => I (i + 1) acc S2))
    (hd : ∀ acc S, I items.length acc S → gok gs S = true ∧ Q acc S) : W (lcGo gs tg ts fe env0 items S) Q := by
  have key : ∀ (m i : Nat) (acc : List D) (S : Sto), items.length - i = m → i ≤ items.length → I i acc S → W (lcGo gs tg ts fe env0 (items.drop i) S) fun ds S' => Q (acc ++ ds) S' := by
    intro m
    induction m with
    | zero =>
      intro i acc S hm hi hI
      have : i = items.length := by omega
      subst this
      rw [List.drop_length]
      obtain ⟨g, q⟩ := hd acc S hI
      unfold lcGo
      rw [if_pos g]
      exact .ok (by rw [List.append_nil]; exact q)
    | succ m ih =>
      intro i acc S hm hi hI
      have hlt : i < items.length := by omega
      rw [List.drop_eq_getElem_cons hlt]
      obtain ⟨g, h⟩ := hs i items[i] acc S (List.getElem?_eq_getElem hlt) hI
      unfold lcGo
      rw [if_pos g]
      refine .bnd (h.noex.imp fun env1 S1 h => .bnd (h.noex.imp fun k S2 h => ?_))
      cases k with
      | true =>
        rw [if_pos rfl]
        refine .bnd ((h.1 rfl).noex.imp fun y S3 h => .bnd (h.imp fun d S4 h => .bnd ((ih (i + 1) (acc ++ [d]) S4 (by omega) (by omega) h).imp fun ds S5 q => ?_)))
        rw [List.append_assoc] at q
        exact .ok q
      | false =>
        rw [if_neg Bool.false_ne_true]
        exact ih (i + 1) acc S2 (by omega) (by omega) (h.2 rfl)
  have := key items.length 0 [] S (by omega) (Nat.zero_le _) h0
  rw [List.drop_zero] at this
  exact this
theorem w_eLc {own : List Nat} {src : SrM} {tg : TgM} {ts : TsM} {Q : Rv → Sto → Prop} (h : W (src env S) fun s S1 => s.1.length < big ∧ W (lcGo s.2 tg ts fe (wipeE env own) s.1 S1) fun ds S2 => Q (.new ds) S2) : W (eLc own src tg ts fe env S) Q :=
  .bnd (h.imp fun s S1 h => by rw [if_pos h.1]; exact .bnd (h.2.imp fun ds S2 q => .ok q))
/-- a while, by what holds ahead of each turn and a measure -/
theorem w_while {t : TsM} {body : StM} (I : Nat → Env → Sto → Prop) {m : Nat} (hm : m < big) (h0 : I m env S)
    (hs : ∀ m env S, I m env S → W (t env S) (BrQ (fun S1 => W (body env S1) (TurnQ (fun env2 S2 => ∃ m', m' < m ∧ I m' env2 S2) Q)) fun S1 => Q (.nx env) S1)) : W (sWhile t body env S) Q := by
  have key : ∀ (n m : Nat) (env : Env) (S : Sto), m < n → I m env S → W (whGo t body n env S) Q := by
    intro n
    induction n with
    | zero => intro m env S h; exact absurd h (Nat.not_lt_zero _)
    | succ n ih =>
      intro m env S h hI
      unfold whGo
      refine .bnd ((hs m env S hI).imp fun k S1 h1 => ?_)
      cases k with
      | true =>
        rw [if_pos rfl]
        refine .bnd ((h1.1 rfl).imp fun fl S2 h2 => ?_)
        cases fl with
        | nx e => obtain ⟨m', hm', h3⟩ := h2; exact ih m' e S2 (by omega) h3
        | ct e => obtain ⟨m', hm', h3⟩ := h2; exact ih m' e S2 (by omega) h3
        | bk e => exact .ok h2
        | rt d => exact .ok h2
      | false =>
        rw [if_neg Bool.false_ne_true]
        exact .ok (h1.2 rfl)
  exact key big m env S hm h0
end
theorem gok_nil {S : Sto} : gok [] S = true := rfl
theorem gok_cons {S : Sto} {n : Nat} {xs : List D} {gs : Gs} (h : S[n]? = some (.lst xs)) (h2 : gok gs S = true) : gok ((n, xs) :: gs) S = true := by
  unfold gok at h2 ⊢
  rw [List.all_cons, h2, Bool.and_true]
  exact decide_eq_true h
end Bz

set_option Elab.async false
set_option linter.all false
set_option maxRecDepth 100000
set_option maxHeartbeats 2000000
/-! Bz, the laws' own helpers: the bag of draws. -/
namespace Bz
open PySem PySem.Spec PyProof.Rows L2
local macro_rules | `(tactic| walk_at "w") => `(tactic| repeat (first
  | with_reducible refine w_sSeq ?_ | with_reducible refine w_sIf ?_ | with_reducible refine w_sAsg ?_ | with_reducible refine w_sRet ?_ | with_reducible refine w_sNil ?_ | with_reducible refine w_sExpr ?_ | with_reducible refine w_sFor ?_
  | with_reducible refine w_asB ?_ | with_reducible refine w_tru ?_ | with_reducible refine w_tsAnd ?_ | with_reducible refine w_tsOr ?_ | with_reducible refine w_tsNot ?_ | with_reducible refine w_tsYes ?_ | with_reducible refine w_and ?_ | with_reducible refine w_or ?_ | with_reducible refine w_not ?_ | with_reducible refine w_eIf ?_
  | with_reducible refine w_bin ?_ | with_reducible refine w_un ?_ | with_reducible refine w_chain ?_ | with_reducible refine w_nm rfl ?_ | with_reducible refine w_c ?_ | with_reducible refine w_stlV ?_ | with_reducible refine w_stlN ?_
  | with_reducible refine w_aNil ?_ | with_reducible refine w_aCons ?_ | with_reducible refine w_eTup ?_ | with_reducible refine w_eLst ?_ | with_reducible refine w_call ?_ | with_reducible refine w_eSl ?_ | with_reducible refine w_ptNo ?_ | with_reducible refine w_ptI ?_ | with_reducible refine w_m1 ?_ | with_reducible refine w_m2 ?_ | with_reducible refine w_eLc ?_
  | with_reducible refine dl_q (Nat.le_of_ble_eq_true rfl) ?_ | with_reducible refine int_q ?_ | with_reducible refine as_q ?_
  | with_reducible refine ty_q (ty_loc (by assumption)) ?_
  | with_reducible refine sq_nx ?_ | with_reducible refine sq_rt ?_ | with_reducible refine sq_bk ?_ | with_reducible refine sq_ct ?_ | with_reducible refine fq_rt ?_ | with_reducible refine fq_nx ?_ | with_reducible refine tq_nx ?_ | with_reducible refine tq_ct ?_ | with_reducible refine tq_bk ?_ | with_reducible refine tq_rt ?_
  | with_reducible refine w_srA ?_ | with_reducible refine w_srR1 ?_ | with_reducible refine w_srR2 ?_ | with_reducible refine w_srZ ?_
  | with_reducible refine src_q (src_loc (by assumption)) ?_ | with_reducible refine src_q rfl ?_
  | with_reducible refine w_addI ?_ | with_reducible refine w_subI ?_ | with_reducible refine w_mulI (by omega) ?_ | with_reducible refine w_divI (by omega) (by omega) ?_ | with_reducible refine w_modI (by first | omega | decide +kernel) ?_ | with_reducible refine w_powI rfl ?_ | with_reducible refine w_neg ?_ | with_reducible refine w_iaddI ?_
  | with_reducible refine w_max ?_ | with_reducible refine w_min ?_ | with_reducible refine w_abs ?_
  | with_reducible refine w_gtI ?_ | with_reducible refine w_ltI ?_ | with_reducible refine w_leI ?_ | with_reducible refine w_geI ?_ | with_reducible refine w_eqI ?_ | with_reducible refine w_neI ?_ | with_reducible refine w_eqS ?_ | with_reducible refine w_neS ?_
  | with_reducible refine w_ixT rfl ?_ | with_reducible refine w_ixR rfl ?_ | with_reducible refine w_ixL (by assumption) rfl ?_
  | with_reducible refine w_len (seq_loc (by assumption)) ?_ | with_reducible refine w_len rfl ?_
  | with_reducible refine w_gNm (Nat.le_of_ble_eq_true rfl) ?_ | with_reducible refine w_gSb ?_ | with_reducible refine w_gTp rfl ?_ | with_reducible refine w_gsCons ?_ | with_reducible refine w_gsNil ?_
  | with_reducible refine w_sPar2 ?_ | with_reducible refine w_sPar3 ?_ | with_reducible refine w_sAug rfl ?_
  | with_reducible refine br_n ?_ | with_reducible refine br_t ?_ | with_reducible refine br_f ?_))

/-- the bag stands at nb -/
def Bag (nb : Nat) (S : Sto) : Prop := ∃ a b : Int, S[nb]? = some (.lst [.int a, .int b]) ∧ 0 ≤ a
/-- all but the bag stands as it stood; there may be more -/
def Fr (nb : Nat) (S S' : Sto) : Prop := S.length ≤ S'.length ∧ ∀ m o, m ≠ nb → S[m]? = some o → S'[m]? = some o
theorem lt_of {S : Sto} {n : Nat} {o : Ob} (h : S[n]? = some o) : n < S.length := by
  rcases Nat.lt_or_ge n S.length with z | z
  · exact z
  · rw [List.getElem?_eq_none z] at h; cases h
theorem Fr.refl {nb : Nat} {S : Sto} : Fr nb S S := ⟨Nat.le_refl _, fun _ _ _ h => h⟩
theorem Fr.trans {nb : Nat} {S S1 S2 : Sto} (a : Fr nb S S1) (b : Fr nb S1 S2) : Fr nb S S2 := ⟨Nat.le_trans a.1 b.1, fun m o n h => b.2 m o n (a.2 m o n h)⟩
theorem Fr.set {nb : Nat} {S : Sto} {o : Ob} : Fr nb S (S.set nb o) := ⟨by simp, fun m o n h => by rw [List.getElem?_set_ne (Ne.symm n)]; exact h⟩
theorem at_left {S os : Sto} {n : Nat} {o : Ob} (h : S[n]? = some o) : (S ++ os)[n]? = some o := by rw [List.getElem?_append_left (lt_of h)]; exact h
theorem at_new {S os : Sto} {o : Ob} : (S ++ o :: os)[S.length]? = some o := by simp
theorem Fr.push {nb : Nat} {S os : Sto} : Fr nb S (S ++ os) := ⟨by simp, fun m o n h => at_left h⟩
theorem Fr.at {nb : Nat} {S S' : Sto} (f : Fr nb S S') {m : Nat} {o : Ob} (h : S[m]? = some o) (n : m ≠ nb) : S'[m]? = some o := f.2 m o n h
theorem Bag.push {nb : Nat} {S os : Sto} (h : Bag nb S) : Bag nb (S ++ os) := by
  obtain ⟨a, b, h, ha⟩ := h
  exact ⟨a, b, at_left h, ha⟩
theorem Bag.lt {nb : Nat} {S : Sto} (h : Bag nb S) : nb < S.length := by
  obtain ⟨a, b, h, ha⟩ := h
  exact lt_of h
theorem Bag.ne {nb : Nat} {S : Sto} (h : Bag nb S) : S.length ≠ nb := by
  have := h.lt
  omega
/-- an object of the store that is changed, not the bag -/
theorem Bag.set {nb m : Nat} {S : Sto} {o : Ob} (h : Bag nb S) (n : m ≠ nb) : Bag nb (S.set m o) := by
  obtain ⟨a, b, h, ha⟩ := h
  exact ⟨a, b, by rw [List.getElem?_set_ne n]; exact h, ha⟩
def b_law_bag (F : Str → FnM) : StM :=
 (sSeq (sAsg (eC (.int 0)) (gNm 2))
 (sSeq (sIf (asB (eBin ltV (eNm 1) (eUn lenV (eNm 0))))
 (sSeq (sAsg (eBin modV (eBin ixV (eNm 0) (eNm 1)) (eBin powV (eC (.int 10)) (eC (.int 60)))) (gNm 2))
 sNil)
 sNil)
 (sSeq (sAsg (eBin addV (eC (.int 1)) (eBin modV (eBin addV (eBin addV (eBin addV (eBin mulV (eBin modV (eNm 2) (eC (.int 2147483629))) (eC (.int 16807))) (eBin mulV (eBin mulV (eC (.int 40009)) (eNm 1)) (eNm 1))) (eBin mulV (eC (.int 7919)) (eNm 1))) (eC (.int 1009))) (eC (.int 2147483645)))) (gNm 3))
 (sSeq (sIf (asB (eBin ltV (eNm 2) (eBin powV (eC (.int 10)) (eC (.int 18)))))
 (sSeq (sRet (eLst (aCons (eC (.int 0)) (aCons (eNm 3) aNil))))
 sNil)
 sNil)
 (sSeq (sRet (eLst (aCons (eNm 2) (aCons (eNm 3) aNil))))
 sNil)))))
def b_law_take (F : Str → FnM) : StM :=
 (sSeq (sIf (asB (eBin gtV (eBin ixV (eNm 0) (eC (.int 0))) (eC (.int 0))))
 (sSeq (sAsg (eBin modV (eBin ixV (eNm 0) (eC (.int 0))) (eNm 1)) (gNm 2))
 (sSeq (sAsg (eBin divV (eBin ixV (eNm 0) (eC (.int 0))) (eNm 1)) (gSb setL (eNm 0) (eC (.int 0))))
 (sSeq (sRet (eNm 2))
 sNil)))
 sNil)
 (sSeq (sAsg (eBin modV (eBin mulV (eBin ixV (eNm 0) (eC (.int 1))) (eC (.int 48271))) (eC (.int 2147483647))) (gSb setL (eNm 0) (eC (.int 1))))
 (sSeq (sRet (eBin modV (eBin divV (eBin modV (eBin mulV (eBin divV (eBin ixV (eNm 0) (eC (.int 1))) (eC (.int 13))) (eBin addV (eBin modV (eBin ixV (eNm 0) (eC (.int 1))) (eC (.int 32749))) (eC (.int 17)))) (eC (.int 2147483629))) (eC (.int 32))) (eNm 1)))
 sNil)))
def b_law_of (F : Str → FnM) : StM :=
 (sSeq (sRet (eBin ixV (eNm 1) (eCall (F "_law_take") (aCons (eNm 0) (aCons (eUn lenV (eNm 1)) aNil)))))
 sNil)

def BagS (g : FnM) : Prop := ∀ (S : Sto) (ns : List Int) (k : Nat) (Q : D → Sto → Prop), k < 100 → (∀ S', Bag S.length S' → Fr S.length S S' → S'.length = S.length + 1 → Q (.loc S.length) S') → W (g [.rol (ns.map D.int), .int k] S) Q
def TakeS (g : FnM) : Prop := ∀ (nb : Nat) (S : Sto) (c : Int) (Q : D → Sto → Prop), Bag nb S → 0 < c → c < 2 ^ 100 → (∀ r S', 0 ≤ r → r < c → Bag nb S' → Fr nb S S' → S'.length = S.length → Q (.int r) S') → W (g [.loc nb, .int c] S) Q
def OfS (g : FnM) : Prop := ∀ (nb m : Nat) (S : Sto) (xs : List D) (Q : D → Sto → Prop), Bag nb S → S[m]? = some (.lst xs) → m ≠ nb → 0 < xs.length → xs.length < 1000 → (∀ d S', d ∈ xs → Bag nb S' → Fr nb S S' → S'.length = S.length → Q d S') → W (g [.loc nb, .loc m] S) Q
theorem take_ok (F : Str → FnM) : TakeS (runL 2 3 (b_law_take F)) := by
  intro nb S c Q h hc hc2 k
  obtain ⟨a, b, h, ha⟩ := h
  have hlt := lt_of h
  refine w_runL rfl ?_
  unfold b_law_take
  walk_at "w"
  refine br_d (fun hk => ?_) fun hk => ?_
  · walk_at "w"
    refine w_setL h rfl ?_
    walk_at "w"
    exact k _ _ (Int.emod_nonneg _ (by omega)) (Int.emod_lt_of_pos _ hc) ⟨_, _, List.getElem?_set_self hlt, Int.ediv_nonneg ha (by omega)⟩ Fr.set (by simp)
  · walk_at "w"
    refine w_setL h rfl ?_
    have h2 := List.getElem?_set_self (a := Ob.lst ([D.int a, D.int b].set (Int.toNat 1) (D.int (b * 48271 % 2147483647)))) hlt
    walk_at "w"
    exact k _ _ (Int.emod_nonneg _ (by omega)) (Int.emod_lt_of_pos _ hc) ⟨_, _, List.getElem?_set_self hlt, ha⟩ Fr.set (by simp)
theorem atI_some {α : Type} {xs : List α} {i : Int} (h0 : 0 ≤ i) (h : i < xs.length) : ∃ x, atI xs i = some x ∧ x ∈ xs := by
  have h1 : i.toNat < xs.length := by omega
  refine ⟨xs[i.toNat], ?_, List.getElem_mem h1⟩
  have := atI_nat (xs := xs) (j := i.toNat) (List.getElem?_eq_getElem h1)
  rwa [show ((i.toNat : Nat) : Int) = i by omega] at this
theorem bag_ok (F : Str → FnM) : BagS (runL 2 4 (b_law_bag F)) := by
  intro S ns k Q hk q
  refine w_runL rfl ?_
  unfold b_law_bag
  walk_at "w"
  refine br_d (fun hk2 => ?_) fun hk2 => ?_
  · obtain ⟨x, hx, hm⟩ := atI_some (xs := ns.map D.int) (i := (k : Int)) (by omega) hk2
    obtain ⟨c, _, rfl⟩ := List.mem_map.mp hm
    walk_at "w"
    refine w_ixR hx ?_
    walk_at "w"
    have hc : 0 ≤ c % 10 ^ Int.toNat 60 := Int.emod_nonneg _ (by decide)
    generalize c % 10 ^ Int.toNat 60 = cell at hc ⊢
    have := Int.emod_nonneg cell (show (2147483629 : Int) ≠ 0 by decide)
    have := Int.emod_lt_of_pos cell (show (0 : Int) < 2147483629 by decide)
    walk_at "w"
    refine br_d (fun hk => ?_) fun hk => ?_
    · walk_at "w"
      exact q _ ⟨_, _, at_new, Int.le_refl _⟩ Fr.push (by simp)
    · walk_at "w"
      exact q _ ⟨_, _, at_new, hc⟩ Fr.push (by simp)
  · walk_at "w"
    refine br_d (fun hk => ?_) fun hk => ?_
    · walk_at "w"
      exact q _ ⟨_, _, at_new, Int.le_refl _⟩ Fr.push (by simp)
    · walk_at "w"
      exact q _ ⟨_, _, at_new, Int.le_refl _⟩ Fr.push (by simp)
theorem of_ok {F : Str → FnM} (T : TakeS (F "_law_take")) : OfS (runL 2 2 (b_law_of F)) := by
  intro nb m S xs Q h hm hne h0 hl k
  refine w_runL rfl ?_
  unfold b_law_of
  walk_at "w"
  refine T nb S _ _ h (by omega) (by omega) fun r S' h1 h2 h3 h4 h5 => ?_
  have hm' := h4.at hm hne
  obtain ⟨x, hx, hmm⟩ := atI_some (xs := xs) (i := r) h1 h2
  walk_at "w"
  refine w_ixL hm' hx ?_
  walk_at "w"
  exact k _ _ hmm h3 h4 h5
end Bz

set_option Elab.async false
set_option linter.all false
set_option maxRecDepth 100000
set_option maxHeartbeats 2000000
/-! Bz, limits: what is burnt and sent by days. -/
namespace Bz
open PySem PySem.Spec PyProof.Rows L2
local macro_rules | `(tactic| walk_at "w") => `(tactic| repeat (first
  | with_reducible refine w_sSeq ?_ | with_reducible refine w_sIf ?_ | with_reducible refine w_sAsg ?_ | with_reducible refine w_sRet ?_ | with_reducible refine w_sNil ?_ | with_reducible refine w_sExpr ?_ | with_reducible refine w_sFor ?_
  | with_reducible refine w_asB ?_ | with_reducible refine w_tru ?_ | with_reducible refine w_tsAnd ?_ | with_reducible refine w_tsOr ?_ | with_reducible refine w_tsNot ?_ | with_reducible refine w_tsYes ?_ | with_reducible refine w_and ?_ | with_reducible refine w_or ?_ | with_reducible refine w_not ?_ | with_reducible refine w_eIf ?_
  | with_reducible refine w_bin ?_ | with_reducible refine w_un ?_ | with_reducible refine w_chain ?_ | with_reducible refine w_nm rfl ?_ | with_reducible refine w_c ?_ | with_reducible refine w_stlV ?_ | with_reducible refine w_stlN ?_
  | with_reducible refine w_aNil ?_ | with_reducible refine w_aCons ?_ | with_reducible refine w_eTup ?_ | with_reducible refine w_eLst ?_ | with_reducible refine w_call ?_ | with_reducible refine w_eSl ?_ | with_reducible refine w_ptNo ?_ | with_reducible refine w_ptI ?_ | with_reducible refine w_m1 ?_ | with_reducible refine w_m2 ?_ | with_reducible refine w_eLc ?_
  | with_reducible refine dl_q (Nat.le_of_ble_eq_true rfl) ?_ | with_reducible refine int_q ?_ | with_reducible refine as_q ?_
  | with_reducible refine ty_q (ty_loc (by assumption)) ?_
  | with_reducible refine sq_nx ?_ | with_reducible refine sq_rt ?_ | with_reducible refine sq_bk ?_ | with_reducible refine sq_ct ?_ | with_reducible refine fq_rt ?_ | with_reducible refine fq_nx ?_ | with_reducible refine tq_nx ?_ | with_reducible refine tq_ct ?_ | with_reducible refine tq_bk ?_ | with_reducible refine tq_rt ?_
  | with_reducible refine w_srA ?_ | with_reducible refine w_srR1 ?_ | with_reducible refine w_srR2 ?_ | with_reducible refine w_srZ ?_
  | with_reducible refine src_q (src_loc (by assumption)) ?_ | with_reducible refine src_q rfl ?_
  | with_reducible refine w_addI ?_ | with_reducible refine w_subI ?_ | with_reducible refine w_mulI (by omega) ?_ | with_reducible refine w_divI (by omega) (by omega) ?_ | with_reducible refine w_modI (by first | omega | decide +kernel) ?_ | with_reducible refine w_powI rfl ?_ | with_reducible refine w_neg ?_ | with_reducible refine w_iaddI ?_
  | with_reducible refine w_max ?_ | with_reducible refine w_min ?_ | with_reducible refine w_abs ?_
  | with_reducible refine w_gtI ?_ | with_reducible refine w_ltI ?_ | with_reducible refine w_leI ?_ | with_reducible refine w_geI ?_ | with_reducible refine w_eqI ?_ | with_reducible refine w_neI ?_ | with_reducible refine w_eqS ?_ | with_reducible refine w_neS ?_
  | with_reducible refine w_ixT rfl ?_ | with_reducible refine w_ixR rfl ?_ | with_reducible refine w_ixL (by assumption) rfl ?_
  | with_reducible refine w_len (seq_loc (by assumption)) ?_ | with_reducible refine w_len rfl ?_
  | with_reducible refine w_gNm (Nat.le_of_ble_eq_true rfl) ?_ | with_reducible refine w_gSb ?_ | with_reducible refine w_gTp rfl ?_ | with_reducible refine w_gsCons ?_ | with_reducible refine w_gsNil ?_
  | with_reducible refine w_sPar2 ?_ | with_reducible refine w_sPar3 ?_ | with_reducible refine w_sAug rfl ?_
  | with_reducible refine br_n ?_ | with_reducible refine br_t ?_ | with_reducible refine br_f ?_))
def b_day_of (F : Str → FnM) : StM :=
 (sSeq (sAsg (eBin minV (eBin ixV (eNm 0) (eC (.int 0))) (eNm 1)) (gNm 2))
 (sSeq (sRet (eTup (aCons (eNm 2) (aCons (eBin maxV (eC (.int 0)) (eBin subV (eBin subV (eNm 1) (eNm 2)) (eBin ixV (eNm 0) (eC (.int 1))))) aNil))))
 sNil))
def b_days (F : Str → FnM) : StM :=
 (sSeq (sAsg (eLst aNil) (gNm 3))
 (sSeq (sFor (srA (eNm 2)) (gNm 4)
 (sSeq (sAsg (eCall (F "day_of") (aCons (eNm 0) (aCons (eBin addV (eNm 1) (eNm 4)) aNil))) (gNm 5))
 (sSeq (sExpr (eM1 .list mApp1 (eNm 3) (eNm 5)))
 (sSeq (sAug 1 iaddV (eBin subV (eBin subV (eNm 4) (eBin ixV (eNm 5) (eC (.int 0)))) (eBin ixV (eNm 5) (eC (.int 1)))))
 sNil))))
 (sSeq (sRet (eNm 3))
 sNil)))
def b_law_limits (F : Str → FnM) : StM :=
 (sSeq (sRet (eTup (aCons (eCall (F "_law_of") (aCons (eNm 0) (aCons (eLst (aCons (eC (.int 0)) (aCons (eC (.int 3)) (aCons (eC (.int 10)) (aCons (eCall (F "_law_take") (aCons (eNm 0) (aCons (eC (.int 30)) aNil))) aNil))))) aNil))) (aCons (eCall (F "_law_of") (aCons (eNm 0) (aCons (eLst (aCons (eC (.int 0)) (aCons (eC (.int 5)) (aCons (eC (.int 20)) (aCons (eCall (F "_law_take") (aCons (eNm 0) (aCons (eC (.int 60)) aNil))) aNil))))) aNil))) aNil))))
 sNil)
def b_law_comes (F : Str → FnM) : StM :=
 (sSeq (sAsg (eCall (F "_law_take") (aCons (eNm 0) (aCons (eBin addV (eNm 1) (eC (.int 1))) aNil))) (gNm 2))
 (sSeq (sRet (eLc [3] (srR1 (eNm 2)) (gNm 3) tsYes (eCall (F "_law_of") (aCons (eNm 0) (aCons (eLst (aCons (eC (.int 0)) (aCons (eC (.int 0)) (aCons (eC (.int 7)) (aCons (eC (.int 30)) (aCons (eCall (F "_law_take") (aCons (eNm 0) (aCons (eC (.int 50)) aNil))) aNil)))))) aNil)))))
 sNil))
def b_law_stays (F : Str → FnM) : StM :=
 (sSeq (sAsg (eLst aNil) (gNm 3))
 (sSeq (sFor (srZ (eNm 1) (eNm 2)) (gTp 2 (gsCons (gNm 4) (gsCons (gNm 5) gsNil)))
 (sSeq (sAsg (eBin subV (eBin subV (eBin addV (eNm 0) (eNm 4)) (eBin ixV (eNm 5) (eC (.int 0)))) (eBin ixV (eNm 5) (eC (.int 1)))) (gNm 0))
 (sSeq (sExpr (eM1 .list mApp1 (eNm 3) (eNm 0)))
 sNil)))
 (sSeq (sRet (eNm 3))
 sNil)))

/-- a day's two numbers -/
def dayF (b k t : Int) : Int × Int := (min b t, max 0 (t - min b t - k))
/-- what stays behind a day -/
def stayF (b k t : Int) : Int := t - (dayF b k t).1 - (dayF b k t).2
def daysF (b k : Int) : Int → List Int → List (Int × Int)
  | _, [] => []
  | t, c :: cs => dayF b k (t + c) :: daysF b k (stayF b k (t + c)) cs
/-- what stays behind all of these days -/
def endF (b k : Int) : Int → List Int → Int
  | t, [] => t
  | t, c :: cs => endF b k (stayF b k (t + c)) cs
theorem daysF_len (b k : Int) : ∀ (t : Int) (cs : List Int), (daysF b k t cs).length = cs.length
  | _, [] => rfl
  | t, c :: cs => by unfold daysF; rw [List.length_cons, List.length_cons, daysF_len]
theorem daysF_app (b k : Int) : ∀ (t : Int) (cs ds : List Int), daysF b k t (cs ++ ds) = daysF b k t cs ++ daysF b k (endF b k t cs) ds
  | _, [], ds => rfl
  | t, c :: cs, ds => by
    show dayF b k (t + c) :: daysF b k _ (cs ++ ds) = dayF b k (t + c) :: (daysF b k _ cs ++ daysF b k (endF b k _ cs) ds)
    rw [daysF_app]
theorem endF_app (b k : Int) : ∀ (t : Int) (cs ds : List Int), endF b k t (cs ++ ds) = endF b k (endF b k t cs) ds
  | _, [], ds => rfl
  | t, c :: cs, ds => by
    show endF b k _ (cs ++ ds) = endF b k (endF b k _ cs) ds
    rw [endF_app]
abbrev pairD (p : Int × Int) : D := .tup [.int p.1, .int p.2]
abbrev boundsD (b k : Int) : D := .tup [.int b, .int k]
def DayOfS (g : FnM) : Prop := ∀ (b k t : Int) (S : Sto) (Q : D → Sto → Prop), Q (pairD (dayF b k t)) S → W (g [boundsD b k, .int t] S) Q
theorem dayOf_ok (F : Str → FnM) : DayOfS (runL 2 3 (b_day_of F)) := by
  intro b k t S Q q
  refine w_runL rfl ?_
  unfold b_day_of
  walk_at "w"
  exact q
theorem take_succ {α : Type} {xs : List α} {i : Nat} {x : α} (h : xs[i]? = some x) : xs.take (i + 1) = xs.take i ++ [x] := by
  rw [List.take_add_one, h]
  rfl
theorem map_get {α β : Type} {f : α → β} {xs : List α} {i : Nat} {y : β} (h : (xs.map f)[i]? = some y) : ∃ x, xs[i]? = some x ∧ y = f x := by
  rw [List.getElem?_map] at h
  obtain ⟨x, h1, h2⟩ := Option.map_eq_some_iff.mp h
  exact ⟨x, h1, h2.symm⟩
def DaysS (g : FnM) : Prop := ∀ (b k t : Int) (m : Nat) (cs : List Int) (S : Sto) (Q : D → Sto → Prop), S[m]? = some (.lst (cs.map D.int)) → cs.length < 10000 → Q (.loc S.length) (S ++ [.lst ((daysF b k t cs).map pairD)]) → W (g [boundsD b k, .int t, .loc m] S) Q
theorem days_ok {F : Str → FnM} (DO : DayOfS (F "day_of")) : DaysS (runL 3 6 (b_days F)) := by
  intro b k t m cs S Q hm hl q
  refine w_runL rfl ?_
  unfold b_days
  walk_at "w"
  have hmS := lt_of hm
  refine src_q (src_loc (at_left hm)) ?_
  refine w_forGo (fun i env S' => ∃ e4 e5, env = [some (boundsD b k), some (.int (endF b k t (cs.take i))), some (.loc m), some (.loc S.length), e4, e5] ∧ S' = S ++ [.lst ((daysF b k t (cs.take i)).map pairD)]) ⟨_, _, rfl, rfl⟩ ?_ ?_
  · rintro i x env S' hx ⟨e4, e5, rfl, rfl⟩
    obtain ⟨c, hc, rfl⟩ := map_get hx
    refine ⟨gok_cons (at_left hm) gok_nil, ?_⟩
    walk_at "w"
    refine DO _ _ _ _ _ ?_
    have hlist : (S ++ [Ob.lst ((daysF b k t (cs.take i)).map pairD)])[S.length]? = some (.lst ((daysF b k t (cs.take i)).map pairD)) := at_new
    walk_at "w"
    refine w_append hlist (by rw [List.length_map, daysF_len, List.length_take]; unfold big; omega) ?_
    walk_at "w"
    refine ⟨some (.int c), some (pairD (dayF b k (endF b k t (cs.take i) + c))), ?_, ?_⟩
    · rw [take_succ hc, endF_app]
      have : endF b k t (cs.take i) + (c - (dayF b k (endF b k t (cs.take i) + c)).1 - (dayF b k (endF b k t (cs.take i) + c)).2) = endF b k (endF b k t (cs.take i)) [c] := by
        simp only [endF, stayF]
        omega
      rw [← this]
      rfl
    · rw [take_succ hc, daysF_app, List.map_append]
      simp [daysF]
  · rintro env S' ⟨e4, e5, rfl, rfl⟩
    refine ⟨gok_cons (at_left hm) gok_nil, ?_⟩
    walk_at "w"
    rw [List.length_map, List.take_length]
    exact q
def LimitsS (g : FnM) : Prop := ∀ (nb : Nat) (S : Sto) (Q : D → Sto → Prop), Bag nb S → (∀ b k S', 0 ≤ b → b ≤ 30 → 0 ≤ k → k ≤ 60 → Bag nb S' → Fr nb S S' → Q (boundsD b k) S') → W (g [.loc nb] S) Q
theorem limits_ok {F : Str → FnM} (T : TakeS (F "_law_take")) (O : OfS (F "_law_of")) : LimitsS (runL 1 1 (b_law_limits F)) := by
  intro nb S Q hb q
  refine w_runL rfl ?_
  unfold b_law_limits
  walk_at "w"
  refine T nb S _ _ hb (by decide) (by decide) fun r S1 h1 h2 hb1 f1 _ => ?_
  walk_at "w"
  refine O nb _ _ _ _ hb1.push at_new hb1.ne (by simp) (by simp) fun d S2 hd hb2 f2 _ => ?_
  have hd : ∃ b, 0 ≤ b ∧ b ≤ 30 ∧ d = .int b := by
    simp only [List.mem_cons, List.not_mem_nil, or_false] at hd
    rcases hd with rfl | rfl | rfl | rfl
    · exact ⟨_, by decide, by decide, rfl⟩
    · exact ⟨_, by decide, by decide, rfl⟩
    · exact ⟨_, by decide, by decide, rfl⟩
    · exact ⟨_, h1, by omega, rfl⟩
  obtain ⟨b, b0, b1, rfl⟩ := hd
  walk_at "w"
  refine T nb S2 _ _ hb2 (by decide) (by decide) fun r3 S3 h3 h4 hb3 f3 _ => ?_
  walk_at "w"
  refine O nb _ _ _ _ hb3.push at_new hb3.ne (by simp) (by simp) fun d S4 hd hb4 f4 _ => ?_
  have hd : ∃ k, 0 ≤ k ∧ k ≤ 60 ∧ d = .int k := by
    simp only [List.mem_cons, List.not_mem_nil, or_false] at hd
    rcases hd with rfl | rfl | rfl | rfl
    · exact ⟨_, by decide, by decide, rfl⟩
    · exact ⟨_, by decide, by decide, rfl⟩
    · exact ⟨_, by decide, by decide, rfl⟩
    · exact ⟨_, h3, by omega, rfl⟩
  obtain ⟨k, k0, k1, rfl⟩ := hd
  walk_at "w"
  exact q b k S4 b0 b1 k0 k1 hb4 ((((f1.trans .push).trans f2).trans f3).trans (.trans .push f4))
/-- a new list of numbers from nought on, below fifty -/
def ComesS (g : FnM) : Prop := ∀ (nb : Nat) (S : Sto) (c : Int) (Q : D → Sto → Prop), Bag nb S → 0 ≤ c → c < 100 → (∀ (cs : List Int) m S', (∀ x ∈ cs, (0 : Int) ≤ x ∧ x < 50) → (cs.length : Int) ≤ c → S.length ≤ m → m ≠ nb → S'[m]? = some (.lst (cs.map D.int)) → Bag nb S' → Fr nb S S' → Q (.loc m) S') → W (g [.loc nb, .int c] S) Q
theorem comes_ok {F : Str → FnM} (T : TakeS (F "_law_take")) (O : OfS (F "_law_of")) : ComesS (runL 2 4 (b_law_comes F)) := by
  intro nb S c Q hb hc hc2 q
  refine w_runL rfl ?_
  unfold b_law_comes
  walk_at "w"
  refine T nb S _ _ hb (by omega) (by omega) fun r S1 h1 h2 hb1 f1 _ => ?_
  walk_at "w"
  refine ⟨r, rfl, by omega, ?_⟩
  refine ⟨by unfold rngI big; simp; omega, ?_⟩
  refine w_lcGo (fun i acc S' => ∃ cs : List Int, acc = cs.map D.int ∧ (∀ x ∈ cs, (0 : Int) ≤ x ∧ x < 50) ∧ cs.length = i ∧ Bag nb S' ∧ Fr nb S S') ⟨[], rfl, fun x h => (nomatch h), rfl, hb1, f1⟩ ?_ ?_
  · rintro i x acc S2 hx ⟨cs, rfl, hcs, hlen, hb2, f2⟩
    obtain ⟨_, rfl⟩ := rngI_get hx
    refine ⟨gok_nil, ?_⟩
    walk_at "w"
    refine T nb S2 _ _ hb2 (by decide) (by decide) fun r3 S3 h3 h4 hb3 f3 _ => ?_
    walk_at "w"
    refine O nb _ _ _ _ hb3.push at_new hb3.ne (by simp) (by simp) fun d S4 hd hb4 f4 _ => ?_
    have hd : ∃ k, (0 : Int) ≤ k ∧ k < 50 ∧ d = .int k := by
      simp only [List.mem_cons, List.not_mem_nil, or_false] at hd
      rcases hd with rfl | rfl | rfl | rfl | rfl
      · exact ⟨_, by decide, by decide, rfl⟩
      · exact ⟨_, by decide, by decide, rfl⟩
      · exact ⟨_, by decide, by decide, rfl⟩
      · exact ⟨_, by decide, by decide, rfl⟩
      · exact ⟨_, h3, by omega, rfl⟩
    obtain ⟨k, k0, k1, rfl⟩ := hd
    walk_at "w"
    refine ⟨cs ++ [k], by simp, fun x hx => ?_, by simp [hlen], hb4, (f2.trans f3).trans (.trans .push f4)⟩
    rcases List.mem_append.mp hx with hx | hx
    · exact hcs x hx
    · rw [List.mem_singleton.mp hx]; exact ⟨k0, k1⟩
  · rintro acc S2 ⟨cs, rfl, hcs, hlen, hb2, f2⟩
    refine ⟨gok_nil, ?_⟩
    walk_at "w"
    have hlen2 : cs.length = r.toNat := by rw [hlen]; simp [rngI]
    exact q cs _ _ hcs (by omega) f2.1 hb2.ne at_new hb2.push (f2.trans .push)
end Bz

set_option Elab.async false
set_option linter.all false
set_option maxRecDepth 100000
set_option maxHeartbeats 2000000
/-! Bz, equality of data; what stays, what is sent. -/
namespace Bz
open PySem PySem.Spec PyProof.Rows L2
local macro_rules | `(tactic| walk_at "w") => `(tactic| repeat (first
  | with_reducible refine w_sSeq ?_ | with_reducible refine w_sIf ?_ | with_reducible refine w_sAsg ?_ | with_reducible refine w_sRet ?_ | with_reducible refine w_sNil ?_ | with_reducible refine w_sExpr ?_ | with_reducible refine w_sFor ?_
  | with_reducible refine w_asB ?_ | with_reducible refine w_tru ?_ | with_reducible refine w_tsAnd ?_ | with_reducible refine w_tsOr ?_ | with_reducible refine w_tsNot ?_ | with_reducible refine w_tsYes ?_ | with_reducible refine w_and ?_ | with_reducible refine w_or ?_ | with_reducible refine w_not ?_ | with_reducible refine w_eIf ?_
  | with_reducible refine w_bin ?_ | with_reducible refine w_un ?_ | with_reducible refine w_chain ?_ | with_reducible refine w_nm rfl ?_ | with_reducible refine w_c ?_ | with_reducible refine w_stlV ?_ | with_reducible refine w_stlN ?_
  | with_reducible refine w_aNil ?_ | with_reducible refine w_aCons ?_ | with_reducible refine w_eTup ?_ | with_reducible refine w_eLst ?_ | with_reducible refine w_call ?_ | with_reducible refine w_eSl ?_ | with_reducible refine w_ptNo ?_ | with_reducible refine w_ptI ?_ | with_reducible refine w_m1 ?_ | with_reducible refine w_m2 ?_ | with_reducible refine w_eLc ?_
  | with_reducible refine dl_q (Nat.le_of_ble_eq_true rfl) ?_ | with_reducible refine int_q ?_ | with_reducible refine as_q ?_
  | with_reducible refine ty_q (ty_loc (by assumption)) ?_
  | with_reducible refine sq_nx ?_ | with_reducible refine sq_rt ?_ | with_reducible refine sq_bk ?_ | with_reducible refine sq_ct ?_ | with_reducible refine fq_rt ?_ | with_reducible refine fq_nx ?_ | with_reducible refine tq_nx ?_ | with_reducible refine tq_ct ?_ | with_reducible refine tq_bk ?_ | with_reducible refine tq_rt ?_
  | with_reducible refine w_srA ?_ | with_reducible refine w_srR1 ?_ | with_reducible refine w_srR2 ?_ | with_reducible refine w_srZ ?_
  | with_reducible refine src_q (src_loc (by assumption)) ?_ | with_reducible refine src_q rfl ?_
  | with_reducible refine w_addI ?_ | with_reducible refine w_subI ?_ | with_reducible refine w_mulI (by omega) ?_ | with_reducible refine w_divI (by omega) (by omega) ?_ | with_reducible refine w_modI (by first | omega | decide +kernel) ?_ | with_reducible refine w_powI rfl ?_ | with_reducible refine w_neg ?_ | with_reducible refine w_iaddI ?_
  | with_reducible refine w_max ?_ | with_reducible refine w_min ?_ | with_reducible refine w_abs ?_
  | with_reducible refine w_gtI ?_ | with_reducible refine w_ltI ?_ | with_reducible refine w_leI ?_ | with_reducible refine w_geI ?_ | with_reducible refine w_eqI ?_ | with_reducible refine w_neI ?_ | with_reducible refine w_eqS ?_ | with_reducible refine w_neS ?_
  | with_reducible refine w_ixT rfl ?_ | with_reducible refine w_ixR rfl ?_ | with_reducible refine w_ixL (by assumption) rfl ?_
  | with_reducible refine w_len (seq_loc (by assumption)) ?_ | with_reducible refine w_len rfl ?_
  | with_reducible refine w_gNm (Nat.le_of_ble_eq_true rfl) ?_ | with_reducible refine w_gSb ?_ | with_reducible refine w_gTp rfl ?_ | with_reducible refine w_gsCons ?_ | with_reducible refine w_gsNil ?_
  | with_reducible refine w_sPar2 ?_ | with_reducible refine w_sPar3 ?_ | with_reducible refine w_sAug rfl ?_
  | with_reducible refine br_n ?_ | with_reducible refine br_t ?_ | with_reducible refine br_f ?_))
/-- data without places -/
class Dt (α : Type) [DecidableEq α] where
  d : α → D
  p : α → PyData
  rf : ∀ (lk : Nat → Option PyData) (a : α), rfd lk (d a) = some (p a)
  eqv : ∀ a b : α, PyData.eqv (p a) (p b) = decide (a = b)
  lay : ∀ a : α, (p a).canLay0 = true
  dep : ∀ a : α, (p a).depth ≤ 20
instance : Dt Int := ⟨.int, .int, fun _ _ => rfl, fun a b => by simp only [PyData.eqv]; rfl, fun _ => rfl, fun _ => Nat.zero_le _⟩
instance : Dt (Int × Int) := ⟨pairD, fun p => .tuple [.int p.1, .int p.2], fun _ _ => rfl, fun a b => by
    simp only [PyData.eqv, PyData.eqvAll, Bool.and_true]
    show (decide (a.1 = b.1) && decide (a.2 = b.2)) = _
    rw [← Bool.decide_and]
    exact decide_eq_decide.mpr ⟨fun e => Prod.ext e.1 e.2, fun e => by rw [e]; exact ⟨rfl, rfl⟩⟩, fun _ => rfl, fun _ => by simp only [PyData.depth, PyData.depthAll]; decide⟩
section
variable {α : Type} [DecidableEq α] [Dt α]
theorem rfds_map (lk : Nat → Option PyData) : ∀ xs : List α, rfds lk (xs.map Dt.d) = some (xs.map Dt.p)
  | [] => rfl
  | x :: xs => by
    show (match rfd lk (Dt.d x), rfds lk (xs.map Dt.d) with
    | some d, some ds => some (d :: ds)
    | _, _ => none) = _
    rw [Dt.rf, rfds_map]
    rfl
theorem dt_eqvAll : ∀ xs ys : List α, PyData.eqvAll (xs.map Dt.p) (ys.map Dt.p) = decide (xs = ys)
  | [], [] => by simp only [List.map_nil, PyData.eqvAll, decide_true]
  | [], _ :: _ => by simp [PyData.eqvAll]
  | _ :: _, [] => by simp [PyData.eqvAll]
  | x :: xs, y :: ys => by
    rw [List.map_cons, List.map_cons, PyData.eqvAll, Dt.eqv x y, dt_eqvAll xs ys, ← Bool.decide_and]
    exact decide_eq_decide.mpr (by rw [List.cons.injEq])
theorem dt_layAll : ∀ xs : List α, PyData.canLayAll0 (xs.map Dt.p) = true
  | [] => rfl
  | x :: xs => by rw [List.map_cons, PyData.canLayAll0, Dt.lay, dt_layAll xs]; rfl
theorem dt_depAll : ∀ xs : List α, PyData.depthAll (xs.map Dt.p) ≤ 20
  | [] => Nat.zero_le _
  | x :: xs => by rw [List.map_cons, PyData.depthAll]; exact Nat.max_le.mpr ⟨Dt.dep x, dt_depAll xs⟩
theorem dt_shL (xs : List α) : SeqAt.shaped (.list (xs.map Dt.p)) = true := by
  unfold SeqAt.shaped
  rw [PyData.canLay0, dt_layAll, PyData.depth]
  have := dt_depAll xs
  exact decide_eq_true (by omega)
theorem dt_sh (x : α) : SeqAt.shaped (Dt.p x) = true := by
  unfold SeqAt.shaped
  rw [Dt.lay]
  have := Dt.dep x
  exact decide_eq_true (by omega)
/-- a list of data under a value -/
def LsD (x : Rv) (S : Sto) (xs : List α) : Prop := rfx x S = some (.list (xs.map Dt.p))
theorem lsd_loc {n : Nat} {S : Sto} {xs : List α} (h : S[n]? = some (.lst (xs.map Dt.d))) : LsD (.val (.loc n)) S xs := by
  show (match S[n]? with
    | some (.lst xs) => (rfds (lkS S 11) xs).map PyData.list
    | _ => none) = _
  rw [h]
  show (rfds _ _).map _ = _
  rw [rfds_map]
  rfl
theorem lsd_new {S : Sto} {xs : List α} : LsD (.new (xs.map Dt.d)) S xs := by
  show (rfds _ _).map _ = _
  rw [rfds_map]
  rfl
theorem lsd_nil {S : Sto} : LsD (.new []) S ([] : List α) := rfl
theorem eqOf_rf {x y : Rv} {S : Sto} {p q : PyData} (hp : rfx x S = some p) (hq : rfx y S = some q) (sp : SeqAt.shaped p = true) (sq : SeqAt.shaped q = true) : eqOf x y S = some (PyData.eqv p q) := by
  unfold eqOf
  split
  · cases hp; cases hq; simp only [PyData.eqv]
  · cases hp; cases hq; simp only [PyData.eqv]
  · rw [hp, hq]
    show (if _ then _ else _) = _
    rw [sp, sq]
    rfl
theorem eqOf_ls {x y : Rv} {S : Sto} {xs ys : List α} (hx : LsD x S xs) (hy : LsD y S ys) : eqOf x y S = some (decide (xs = ys)) := by
  rw [eqOf_rf hx hy (dt_shL xs) (dt_shL ys), PyData.eqv, dt_eqvAll]
theorem w_eqL {x y : Rv} {S : Sto} {xs ys : List α} {Q : Rv → Sto → Prop} (hx : LsD x S xs) (hy : LsD y S ys) (q : Q (.val (.bl (decide (xs = ys)))) S) : W (eqV' x y S) Q := w_eq (eqOf_ls hx hy) q
theorem w_neL {x y : Rv} {S : Sto} {xs ys : List α} {Q : Rv → Sto → Prop} (hx : LsD x S xs) (hy : LsD y S ys) (q : Q (.val (.bl (!decide (xs = ys)))) S) : W (neV' x y S) Q := w_ne (eqOf_ls hx hy) q
end
theorem cutD_to {α : Type} (f : α → D) (xs : List α) (k : Nat) : cutD (xs.map f) none (some (k : Int)) = (xs.take k).map f := by
  unfold cutD
  rw [HT.sIx_none, HT.sIx_nat, List.drop_zero, Nat.sub_zero, ← List.map_take, List.length_map]
  congr 1
  rw [Nat.min_def]
  split
  · rfl
  · rw [List.take_of_length_le (by omega), List.take_of_length_le (by omega)]
theorem cutD_from {α : Type} (f : α → D) (xs : List α) (k : Nat) : cutD (xs.map f) (some (k : Int)) none = (xs.drop k).map f := by
  unfold cutD
  rw [HT.sIx_none, HT.sIx_nat, ← List.map_drop, List.length_map]
  rw [← List.map_take]
  congr 1
  rw [List.take_of_length_le (by simp)]
  rw [Nat.min_def]
  split
  · rfl
  · rw [List.drop_of_length_le (by omega), List.drop_of_length_le (by omega)]
theorem zipD_map {α β : Type} (f : α → D) (g : β → D) (xs : List α) (ys : List β) : zipD (xs.map f) (ys.map g) = (xs.zip ys).map fun p => D.tup [f p.1, g p.2] := by
  unfold zipD
  rw [List.zip_map, List.map_map]
  rfl
/-- what stays behind each day -/
def staysF : Int → List (Int × (Int × Int)) → List Int
  | _, [] => []
  | t, (c, p) :: r => (t + c - p.1 - p.2) :: staysF (t + c - p.1 - p.2) r
/-- what stays behind all -/
def leftF : Int → List (Int × (Int × Int)) → Int
  | t, [] => t
  | t, (c, p) :: r => leftF (t + c - p.1 - p.2) r
theorem leftF_app : ∀ (t : Int) (r q : List (Int × (Int × Int))), leftF t (r ++ q) = leftF (leftF t r) q
  | _, [], q => rfl
  | t, (c, p) :: r, q => by
    show leftF _ (r ++ q) = leftF (leftF _ r) q
    rw [leftF_app]
theorem staysF_app : ∀ (t : Int) (r q : List (Int × (Int × Int))), staysF t (r ++ q) = staysF t r ++ staysF (leftF t r) q
  | _, [], q => rfl
  | t, (c, p) :: r, q => by
    show _ :: staysF _ (r ++ q) = _ :: (staysF _ r ++ staysF (leftF _ r) q)
    rw [staysF_app]
theorem staysF_len : ∀ (t : Int) (r : List (Int × (Int × Int))), (staysF t r).length = r.length
  | _, [] => rfl
  | t, (c, p) :: r => by
    show (_ :: staysF _ r).length = _
    rw [List.length_cons, List.length_cons, staysF_len]
def StaysS (g : FnM) : Prop := ∀ (t : Int) (m1 m2 : Nat) (cs : List Int) (rs : List (Int × Int)) (S : Sto) (Q : D → Sto → Prop), S[m1]? = some (.lst (cs.map D.int)) → S[m2]? = some (.lst (rs.map pairD)) → cs.length < 10000 → Q (.loc S.length) (S ++ [.lst ((staysF t (cs.zip rs)).map D.int)]) → W (g [.int t, .loc m1, .loc m2] S) Q
theorem stays_ok (F : Str → FnM) : StaysS (runL 3 6 (b_law_stays F)) := by
  intro t m1 m2 cs rs S Q h1 h2 hl q
  refine w_runL rfl ?_
  unfold b_law_stays
  walk_at "w"
  refine ⟨_, _, src_loc (at_left h1), src_loc (at_left h2), rfl, ?_⟩
  rw [zipD_map]
  refine w_forGo (fun i env S' => ∃ e4 e5, env = [some (.int (leftF t ((cs.zip rs).take i))), some (.loc m1), some (.loc m2), some (.loc S.length), e4, e5] ∧ S' = S ++ [.lst ((staysF t ((cs.zip rs).take i)).map D.int)]) ⟨_, _, rfl, rfl⟩ ?_ ?_
  · rintro i x env S' hx ⟨e4, e5, rfl, rfl⟩
    obtain ⟨⟨c, p⟩, hc, rfl⟩ := map_get hx
    refine ⟨gok_cons (at_left h1) (gok_cons (at_left h2) gok_nil), ?_⟩
    have hlist : (S ++ [Ob.lst ((staysF t ((cs.zip rs).take i)).map D.int)])[S.length]? = some (.lst ((staysF t ((cs.zip rs).take i)).map D.int)) := at_new
    walk_at "w"
    refine w_append hlist (by rw [List.length_map, staysF_len, List.length_take, List.length_zip]; unfold big; omega) ?_
    walk_at "w"
    refine ⟨some (.int c), some (pairD p), ?_, ?_⟩
    · rw [take_succ hc, leftF_app]
      rfl
    · rw [take_succ hc, staysF_app, List.map_append]
      simp [staysF]
  · rintro env S' ⟨e4, e5, rfl, rfl⟩
    refine ⟨gok_cons (at_left h1) (gok_cons (at_left h2) gok_nil), ?_⟩
    walk_at "w"
    rw [List.length_map, List.take_length]
    exact q
/-- what is sent up to each day -/
def sentF : Int → List (Int × Int) → List Int
  | _, [] => []
  | a, p :: r => (p.2 + a) :: sentF (p.2 + a) r
theorem sentF_len : ∀ (a : Int) (r : List (Int × Int)), (sentF a r).length = r.length
  | _, [] => rfl
  | a, p :: r => by
    show (_ :: sentF _ r).length = _
    rw [List.length_cons, List.length_cons, sentF_len]
def sumF : Int → List (Int × Int) → Int
  | a, [] => a
  | a, p :: r => sumF (p.2 + a) r
theorem sumF_app : ∀ (t : Int) (r q : List (Int × Int)), sumF t (r ++ q) = sumF (sumF t r) q
  | _, [], q => rfl
  | t, p :: r, q => by
    show sumF _ (r ++ q) = sumF (sumF _ r) q
    rw [sumF_app]
theorem sentF_app : ∀ (t : Int) (r q : List (Int × Int)), sentF t (r ++ q) = sentF t r ++ sentF (sumF t r) q
  | _, [], q => rfl
  | t, p :: r, q => by
    show _ :: sentF _ (r ++ q) = _ :: (sentF _ r ++ sentF (sumF _ r) q)
    rw [sentF_app]
theorem sentF_last : ∀ (a : Int) (r : List (Int × Int)), r ≠ [] → ∃ xs, sentF a r = xs ++ [sumF a r]
  | _, [], h => absurd rfl h
  | a, [p], _ => ⟨[], rfl⟩
  | a, p :: p2 :: r, _ => by
    obtain ⟨xs, h⟩ := sentF_last (p.2 + a) (p2 :: r) (by simp)
    exact ⟨(p.2 + a) :: xs, by show _ :: sentF _ (p2 :: r) = _; rw [h]; rfl⟩
def b_law_sent (F : Str → FnM) : StM :=
 (sSeq (sAsg (eLst aNil) (gNm 1))
 (sSeq (sFor (srA (eNm 0)) (gTp 2 (gsCons (gNm 2) (gsCons (gNm 3) gsNil)))
 (sSeq (sExpr (eM1 .list mApp1 (eNm 1) (eBin addV (eNm 3) (eIf (asB (eBin neV' (eNm 1) (eLst aNil))) (eBin ixV (eNm 1) (eUn negV (eC (.int 1)))) (eC (.int 0))))))
 sNil))
 (sSeq (sRet (eNm 1))
 sNil)))
def SentS (g : FnM) : Prop := ∀ (m : Nat) (rs : List (Int × Int)) (S : Sto) (Q : D → Sto → Prop), S[m]? = some (.lst (rs.map pairD)) → rs.length < 10000 → Q (.loc S.length) (S ++ [.lst ((sentF 0 rs).map D.int)]) → W (g [.loc m] S) Q
theorem sent_ok (F : Str → FnM) : SentS (runL 1 4 (b_law_sent F)) := by
  intro m rs S Q h1 hl q
  refine w_runL rfl ?_
  unfold b_law_sent
  walk_at "w"
  refine src_q (src_loc (at_left h1)) ?_
  refine w_forGo (fun i env S' => ∃ e4 e5, env = [some (.loc m), some (.loc S.length), e4, e5] ∧ S' = S ++ [.lst ((sentF 0 (rs.take i)).map D.int)]) ⟨_, _, rfl, rfl⟩ ?_ ?_
  · rintro i x env S' hx ⟨e4, e5, rfl, rfl⟩
    obtain ⟨p, hc, rfl⟩ := map_get hx
    refine ⟨gok_cons (at_left h1) gok_nil, ?_⟩
    have hlist : (S ++ [Ob.lst ((sentF 0 (rs.take i)).map D.int)])[S.length]? = some (.lst ((sentF 0 (rs.take i)).map D.int)) := at_new
    have hlen : ((sentF 0 (rs.take i)).map D.int).length < big := by rw [List.length_map, sentF_len, List.length_take]; unfold big; omega
    walk_at "w"
    refine w_neL (lsd_loc (α := Int) hlist) lsd_nil ?_
    walk_at "w"
    have fin : (S ++ [Ob.lst ((sentF 0 (rs.take i)).map D.int)]).set S.length (.lst (((sentF 0 (rs.take i)).map D.int) ++ [.int (p.2 + sumF 0 (rs.take i))])) = S ++ [.lst ((sentF 0 (rs.take (i + 1))).map D.int)] := by
      rw [take_succ hc, sentF_app, List.map_append]
      simp [sentF]
    refine br_d (fun hk => ?_) fun hk => ?_
    · have : rs.take i = [] := by
        have := congrArg List.length hk
        rw [sentF_len] at this
        exact List.eq_nil_of_length_eq_zero this
      walk_at "w"
      refine w_append hlist hlen ?_
      walk_at "w"
      refine ⟨some (.int p.1), some (.int p.2), rfl, ?_⟩
      rw [← fin, this]
      rfl
    · obtain ⟨xs, he⟩ := sentF_last 0 (rs.take i) (fun z => hk (by rw [z]; rfl))
      have hat : atI ((sentF 0 (rs.take i)).map D.int) (-1) = some (.int (sumF 0 (rs.take i))) := by
        rw [he, List.map_append]
        exact atI_last _ _
      walk_at "w"
      refine w_ixL hlist hat ?_
      walk_at "w"
      refine w_append hlist hlen ?_
      walk_at "w"
      refine ⟨some (.int p.1), some (.int p.2), rfl, ?_⟩
      rw [← fin]
  · rintro env S' ⟨e4, e5, rfl, rfl⟩
    refine ⟨gok_cons (at_left h1) gok_nil, ?_⟩
    walk_at "w"
    rw [List.length_map, List.take_length]
    exact q
end Bz

set_option Elab.async false
set_option linter.all false
set_option maxRecDepth 100000
set_option maxHeartbeats 2000000
/-! Bz, things of any kind. -/
namespace Bz
open PySem PySem.Spec PyProof.Rows L2
/-! ### further rules -/
section
variable {S S1 : Sto} {env : Env} {Q : Rv → Sto → Prop}
theorem br_tr {A B : Sto → Prop} {k : Bool} (e : k = true) (h : A S) : BrQ A B k S := e ▸ br_t h
theorem br_fl {A B : Sto → Prop} {k : Bool} (e : k = false) (h : B S) : BrQ A B k S := e ▸ br_f h
theorem w_popAt {n : Nat} {xs : List D} {i : Int} {j : Nat} {y : D} (h0 : S[n]? = some (.lst xs)) (hi : -(2 ^ 60) ≤ i ∧ i < 2 ^ 60) (hj : ixN xs.length i = some j) (hy : xs[j]? = some y) (q : Q (.val y) (S.set n (.lst (xs.eraseIdx j)))) : W (mPop1 (.val (.loc n)) (.int i) S) Q := by
  unfold mPop1 mPopAt chg
  simp only [h0, if_pos hi, hj, hy]
  exact .ok q
theorem w_insert {n : Nat} {xs : List D} {i : Int} {d : D} (h0 : S[n]? = some (.lst xs)) (hi : xs.length < big ∧ 0 ≤ i ∧ i < 2 ^ 60) (q : Q (.val .non) (S.set n (.lst (xs.take i.toNat ++ [d] ++ xs.drop i.toNat)))) : W (mIns2 (.val (.loc n)) (.int i) d S) Q := by
  unfold mIns2 mInsert chg
  simp only [h0, if_pos hi]
  exact .ok q
theorem w_revL {x : Rv} {xs : List D} (h : lrdOf x S = some xs) (q : Q (.new xs.reverse) S) : W (revV x S) Q := by
  have : revV x S = .ok (.new xs.reverse) S := by
    unfold revV
    cases x with
    | new ys => simp only [h]
    | val d => cases d <;> first | (simp only [h]; done) | (simp [lrdOf] at h)
  rw [this]
  exact .ok q
theorem w_revT {xs : List D} (q : Q (.val (.tup xs.reverse)) S) : W (revV (.val (.tup xs)) S) Q := .ok q
theorem w_isi2 {T U t : Ty} {x : Rv} (h : tyOf x S = some t) (q : Q (.val (.bl (isi t T || isi t U))) S) : W (isiV2 T U x S) Q := by
  unfold isiV2
  rw [h]
  exact .ok q
theorem w_addB {b : Bool} {j : Int} (q : Q (.val (.int (b2i b + j))) S) : W (addV (.val (.bl b)) (.val (.int j)) S) Q := .ok q
theorem w_fnil {gs : Gs} {tg : TgM} {body : StM} {Q : Fl → Sto → Prop} (g : gok gs S = true) (q : Q (.nx env) S) : W (forGo gs tg body [] env S) Q := by
  unfold forGo
  rw [if_pos g]
  exact .ok q
theorem w_fcons {gs : Gs} {tg : TgM} {body : StM} {x : D} {xs : List D} {Q : Fl → Sto → Prop} (g : gok gs S = true) (h : W (tg x env S) fun env1 S1 => W (body env1 S1) (TurnQ (fun env2 S2 => W (forGo gs tg body xs env2 S2) Q) Q)) : W (forGo gs tg body (x :: xs) env S) Q := by
  unfold forGo
  rw [if_pos g]
  refine .bnd (h.imp fun env1 S1 h => .bnd (h.imp fun fl S2 h => ?_))
  cases fl with
  | nx e => exact h
  | ct e => exact h
  | bk e => exact .ok h
  | rt d => exact .ok h
theorem w_lnil {gs : Gs} {tg : TgM} {ts : TsM} {fe : ExM} {env0 : Env} {Q : List D → Sto → Prop} (g : gok gs S = true) (q : Q [] S) : W (lcGo gs tg ts fe env0 [] S) Q := by
  unfold lcGo
  rw [if_pos g]
  exact .ok q
theorem w_lcons {gs : Gs} {tg : TgM} {ts : TsM} {fe : ExM} {env0 : Env} {x : D} {xs : List D} {Q : List D → Sto → Prop} (g : gok gs S = true)
    (h : W (tg x env0 S) fun env1 S1 => W (ts env1 S1) (BrQ (fun S2 => W (fe env1 S2) fun y S3 => W (stl y S3) fun d S4 => W (lcGo gs tg ts fe env0 xs S4) fun ds S5 => Q (d :: ds) S5) fun S2 => W (lcGo gs tg ts fe env0 xs S2) Q)) : W (lcGo gs tg ts fe env0 (x :: xs) S) Q := by
  unfold lcGo
  rw [if_pos g]
  refine .bnd (h.noex.imp fun env1 S1 h => .bnd (h.noex.imp fun k S2 h => ?_))
  cases k with
  | true =>
    rw [if_pos rfl]
    exact .bnd ((h.1 rfl).noex.imp fun y S3 h => .bnd (h.imp fun d S4 h => .bnd (h.imp fun ds S5 q => .ok q)))
  | false =>
    rw [if_neg Bool.false_ne_true]
    exact h.2 rfl
end
/-- a thing of any kind: P tells of its texts, c is the most parts, n how deep -/
def Sca (P : Str → Prop) : D → Prop
  | .non => True
  | .bl _ => True
  | .int _ => True
  | .str x => P x
  | _ => False
/-- what stands as parts under a thing; A: where lists may stand -/
def Pts (A : Nat → Prop) (S : Sto) (d : D) (xs : List D) : Prop := d = .tup xs ∨ ∃ m, d = .loc m ∧ A m ∧ S[m]? = some (.lst xs)
def Thg (P : Str → Prop) (A : Nat → Prop) (c : Nat) (S : Sto) : Nat → D → Prop
  | 0, d => Sca P d
  | n + 1, d => Sca P d ∨ ∃ xs, Pts A S d xs ∧ xs.length ≤ c ∧ ∀ x ∈ xs, Thg P A c S n x
/-- what stands at A stands so in S' -/
def On (A : Nat → Prop) (S S' : Sto) : Prop := ∀ m o, A m → S[m]? = some o → S'[m]? = some o
theorem Fr.on {nb : Nat} {S S' : Sto} {A : Nat → Prop} (f : Fr nb S S') (h : ∀ m, A m → m ≠ nb) : On A S S' := fun m o ha e => f.2 m o (h m ha) e
theorem On.set {A : Nat → Prop} {S : Sto} {p : Nat} {o : Ob} (h : ¬ A p) : On A S (S.set p o) := fun m x ha e => by
  rw [List.getElem?_set_ne (fun z => h (by rw [z]; exact ha))]
  exact e
theorem Fr.set_new {nb p : Nat} {S S' : Sto} {o : Ob} (f : Fr nb S S') (h : S.length ≤ p) : Fr nb S (S'.set p o) := ⟨by rw [List.length_set]; exact f.1, fun m x hm e => by
  have := lt_of e
  rw [List.getElem?_set_ne (by omega)]
  exact f.2 m x hm e⟩
section
variable {P : Str → Prop} {A B : Nat → Prop} {c : Nat} {S S' : Sto}
theorem Pts.fr (f : On A S S') {d : D} {xs : List D} (h : Pts A S d xs) : Pts A S' d xs := by
  rcases h with h1 | ⟨m, h1, h4, h5⟩
  · exact .inl h1
  · exact .inr ⟨m, h1, h4, f m _ h4 h5⟩
theorem Thg.fr (f : On A S S') : ∀ {n : Nat} {d : D}, Thg P A c S n d → Thg P A c S' n d
  | 0, d, h => h
  | n + 1, d, h => by
    rcases h with h | ⟨xs, h1, h2, h3⟩
    · exact .inl h
    · exact .inr ⟨xs, h1.fr f, h2, fun x hx => (h3 x hx).fr f⟩
theorem Thg.sca {d : D} (h : Sca P d) : ∀ {n : Nat}, Thg P A c S n d
  | 0 => h
  | n + 1 => .inl h
theorem Thg.up_go {c' : Nat} (hc : c ≤ c') (hA : ∀ m, A m → B m) : ∀ {n m : Nat} {d : D}, n ≤ m → Thg P A c S n d → Thg P B c' S m d
  | 0, m, d, _, h => .sca h
  | n + 1, 0, d, q, _ => absurd q (Nat.not_succ_le_zero _)
  | n + 1, m + 1, d, q, h => by
    rcases h with h | ⟨xs, h1, h2, h3⟩
    · exact .inl h
    · refine .inr ⟨xs, ?_, Nat.le_trans h2 hc, fun x hx => Thg.up_go hc hA (Nat.le_of_succ_le_succ q) (h3 x hx)⟩
      rcases h1 with h1 | ⟨m, h1, h4, h5⟩
      · exact .inl h1
      · exact .inr ⟨m, h1, hA m h4, h5⟩
theorem Thg.up {c' n m : Nat} {d : D} (h : Thg P A c S n d) (hc : c ≤ c') (hA : ∀ m, A m → B m) (hn : n ≤ m) : Thg P B c' S m d := Thg.up_go hc hA hn h
/-- where its lists stand there are some -/
theorem Thg.lt : ∀ {n : Nat} {d : D}, Thg P A c S n d → Thg P (fun m => A m ∧ m < S.length) c S n d
  | 0, d, h => h
  | n + 1, d, h => by
    rcases h with h | ⟨xs, h1, h2, h3⟩
    · exact .inl h
    · refine .inr ⟨xs, ?_, h2, fun x hx => (h3 x hx).lt⟩
      rcases h1 with h1 | ⟨m, h1, h4, h5⟩
      · exact .inl h1
      · exact .inr ⟨m, h1, ⟨h4, lt_of h5⟩, h5⟩
/-- of which type a thing is -/
theorem Sca.ty {d : D} (h : Sca P d) : ∃ t, tyOf (.val d) S = some t ∧ t ≠ .tuple ∧ t ≠ .list := by
  cases d <;> first | exact h.elim | exact ⟨_, rfl, by decide, by decide⟩
theorem Pts.ty {d : D} {xs : List D} (h : Pts A S d xs) : ∃ t, tyOf (.val d) S = some t ∧ (t = .tuple ∨ t = .list) := by
  rcases h with rfl | ⟨m, rfl, _, h⟩
  · exact ⟨_, rfl, .inl rfl⟩
  · exact ⟨_, ty_loc h, .inr rfl⟩
theorem Thg.ty : ∀ {n : Nat} {d : D}, Thg P A c S n d → ∃ t, tyOf (.val d) S = some t
  | 0, d, h => by
    obtain ⟨t, h, _⟩ := Sca.ty (S := S) h
    exact ⟨t, h⟩
  | n + 1, d, h => by
    rcases h with h | ⟨xs, h, _⟩
    · obtain ⟨t, h, _⟩ := Sca.ty (S := S) h
      exact ⟨t, h⟩
    · obtain ⟨t, h, _⟩ := h.ty
      exact ⟨t, h⟩
theorem Pts.seq {d : D} {xs : List D} (h : Pts A S d xs) : seqOf (.val d) S = some xs := by
  rcases h with rfl | ⟨m, rfl, _, h⟩
  · rfl
  · exact seq_loc h
theorem Thg.parts {n : Nat} {d : D} {t : Ty} (hd : Thg P A c S n d) (ht : tyOf (.val d) S = some t) (hi : (isi t .tuple || isi t .list) = true) : ∃ n' xs, n = n' + 1 ∧ Pts A S d xs ∧ xs.length ≤ c ∧ ∀ x ∈ xs, Thg P A c S n' x := by
  have no : ¬ Sca P d := fun z => by
    obtain ⟨t', h1, h2, h3⟩ := Sca.ty (S := S) z
    rw [ht] at h1
    cases h1
    cases t <;> first | exact h2 rfl | exact h3 rfl | exact absurd hi (by decide)
  cases n with
  | zero => exact absurd hd no
  | succ n' =>
    rcases hd with h | ⟨xs, h1, h2, h3⟩
    · exact absurd h no
    · exact ⟨n', xs, rfl, h1, h2, h3⟩
/-- a part of a thing -/
theorem w_ixP {d y : D} {xs : List D} {k : Int} {Q : Rv → Sto → Prop} (h : Pts A S d xs) (hk : atI xs k = some y) (q : Q (.val y) S) : W (ixV (.val d) (.val (.int k)) S) Q := by
  rcases h with rfl | ⟨m, rfl, _, h⟩
  · exact w_ixT hk q
  · exact w_ixL h hk q
end
end Bz

set_option Elab.async false
set_option linter.all false
set_option maxRecDepth 100000
set_option pp.deepTerms false
set_option pp.deepTerms.threshold 3
set_option maxHeartbeats 2000000
/-! Bz, odd things, spoilt things. -/
namespace Bz
open PySem PySem.Spec PyProof.Rows L2
local macro_rules | `(tactic| walk_at "w") => `(tactic| repeat (first
  | with_reducible refine w_sSeq ?_ | with_reducible refine w_sIf ?_ | with_reducible refine w_sAsg ?_ | with_reducible refine w_sRet ?_ | with_reducible refine w_sNil ?_ | with_reducible refine w_sExpr ?_ | with_reducible refine w_sFor ?_
  | with_reducible refine w_asB ?_ | with_reducible refine w_tru ?_ | with_reducible refine w_tsAnd ?_ | with_reducible refine w_tsOr ?_ | with_reducible refine w_tsNot ?_ | with_reducible refine w_tsYes ?_ | with_reducible refine w_and ?_ | with_reducible refine w_or ?_ | with_reducible refine w_not ?_ | with_reducible refine w_eIf ?_
  | with_reducible refine w_bin ?_ | with_reducible refine w_un ?_ | with_reducible refine w_chain ?_ | with_reducible refine w_nm rfl ?_ | with_reducible refine w_c ?_ | with_reducible refine w_stlV ?_ | with_reducible refine w_stlN ?_
  | with_reducible refine w_aNil ?_ | with_reducible refine w_aCons ?_ | with_reducible refine w_eTup ?_ | with_reducible refine w_eLst ?_ | with_reducible refine w_call ?_ | with_reducible refine w_eSl ?_ | with_reducible refine w_ptNo ?_ | with_reducible refine w_ptI ?_ | with_reducible refine w_m1 ?_ | with_reducible refine w_m2 ?_ | with_reducible refine w_eLc ?_
  | with_reducible refine dl_q (Nat.le_of_ble_eq_true rfl) ?_ | with_reducible refine int_q ?_ | with_reducible refine as_q ?_
  | with_reducible refine ty_q (ty_loc (by assumption)) ?_
  | with_reducible refine sq_nx ?_ | with_reducible refine sq_rt ?_ | with_reducible refine sq_bk ?_ | with_reducible refine sq_ct ?_ | with_reducible refine fq_rt ?_ | with_reducible refine fq_nx ?_ | with_reducible refine tq_nx ?_ | with_reducible refine tq_ct ?_ | with_reducible refine tq_bk ?_ | with_reducible refine tq_rt ?_
  | with_reducible refine w_srA ?_ | with_reducible refine w_srR1 ?_ | with_reducible refine w_srR2 ?_ | with_reducible refine w_srZ ?_
  | with_reducible refine src_q (src_loc (by assumption)) ?_ | with_reducible refine src_q rfl ?_
  | with_reducible refine w_addI ?_ | with_reducible refine w_subI ?_ | with_reducible refine w_mulI (by omega) ?_ | with_reducible refine w_divI (by omega) (by omega) ?_ | with_reducible refine w_modI (by first | omega | decide +kernel) ?_ | with_reducible refine w_powI rfl ?_ | with_reducible refine w_neg ?_ | with_reducible refine w_iaddI ?_
  | with_reducible refine w_max ?_ | with_reducible refine w_min ?_ | with_reducible refine w_abs ?_
  | with_reducible refine w_gtI ?_ | with_reducible refine w_ltI ?_ | with_reducible refine w_leI ?_ | with_reducible refine w_geI ?_ | with_reducible refine w_eqI ?_ | with_reducible refine w_neI ?_ | with_reducible refine w_eqS ?_ | with_reducible refine w_neS ?_
  | with_reducible refine w_ixT rfl ?_ | with_reducible refine w_ixR rfl ?_ | with_reducible refine w_ixL (by assumption) rfl ?_
  | with_reducible refine w_len (seq_loc (by assumption)) ?_ | with_reducible refine w_len rfl ?_
  | with_reducible refine w_gNm (Nat.le_of_ble_eq_true rfl) ?_ | with_reducible refine w_gSb ?_ | with_reducible refine w_gTp rfl ?_ | with_reducible refine w_gsCons ?_ | with_reducible refine w_gsNil ?_
  | with_reducible refine w_sPar2 ?_ | with_reducible refine w_sPar3 ?_ | with_reducible refine w_sAug rfl ?_
  | with_reducible refine br_n ?_ | with_reducible refine br_t ?_ | with_reducible refine br_f ?_))
def b_is_from (F : Str → FnM) : StM :=
 (sSeq (sRet (eAnd (eUn (isiV .int) (eNm 0)) (eAnd (eNot (eUn (isiV .bool) (eNm 0))) (eChain leV leV (eNm 1) (eNm 0) (eNm 2)))))
 sNil)
def b_law_odd (F : Str → FnM) : StM :=
 (sSeq (sRet (eCall (F "_law_of") (aCons (eNm 0) (aCons (eLst (aCons (eC .non) (aCons (eC (.bl true)) (aCons (eUn negV (eC (.int 1))) (aCons (eC (.int 0)) (aCons (eC (.int 1001)) (aCons (eBin powV (eC (.int 10)) (eC (.int 10))) (aCons (eC (.str "")) (aCons (eC (.str "x")) (aCons (eC (.str "A")) (aCons (eC (.str "abcdefghi")) (aCons (eTup aNil) (aCons (eLst aNil) (aCons (eTup (aCons (eC (.str "ash")) aNil)) (aCons (eTup (aCons (eC (.str "ash")) (aCons (eC (.int 1)) aNil))) aNil))))))))))))))) aNil))))
 sNil)
def b_law_spoilt (F : Str → FnM) : StM :=
 (sSeq (sIf (tsOr (tsNot (tru (eUn (isiV2 .tuple .list) (eNm 1)))) (tsOr (asB (eBin eqV' (eUn lenV (eNm 1)) (eC (.int 0)))) (asB (eBin eqV' (eCall (F "_law_take") (aCons (eNm 0) (aCons (eC (.int 6)) aNil))) (eC (.int 0))))))
 (sSeq (sIf (tsAnd (tru (eUn (isiV .int) (eNm 1))) (asB (eBin eqV' (eCall (F "_law_take") (aCons (eNm 0) (aCons (eC (.int 2)) aNil))) (eC (.int 0)))))
 (sSeq (sRet (eBin addV (eNm 1) (eCall (F "_law_of") (aCons (eNm 0) (aCons (eLst (aCons (eC (.int 1)) (aCons (eUn negV (eC (.int 1))) (aCons (eC (.int 99)) (aCons (eUn negV (eC (.int 1000))) (aCons (eBin powV (eC (.int 10)) (eC (.int 9))) aNil)))))) aNil)))))
 sNil)
 sNil)
 (sSeq (sRet (eCall (F "_law_odd") (aCons (eNm 0) aNil)))
 sNil))
 sNil)
 (sSeq (sAsg (eUn listV (eNm 1)) (gNm 2))
 (sSeq (sPar2 3 4 (aCons (eCall (F "_law_take") (aCons (eNm 0) (aCons (eUn lenV (eNm 2)) aNil))) (aCons (eCall (F "_law_take") (aCons (eNm 0) (aCons (eC (.int 10)) aNil))) aNil)))
 (sSeq (sIf (asB (eBin eqV' (eNm 4) (eC (.int 0))))
 (sSeq (sExpr (eM1 .list mPop1 (eNm 2) (eNm 3)))
 sNil)
 (sSeq (sIf (asB (eBin eqV' (eNm 4) (eC (.int 1))))
 (sSeq (sExpr (eM2 .list mIns2 (eNm 2) (eNm 3) (eBin ixV (eNm 2) (eNm 3))))
 sNil)
 (sSeq (sIf (asB (eBin eqV' (eNm 4) (eC (.int 2))))
 (sSeq (sAsg (eUn revV (eNm 2)) (gNm 2))
 sNil)
 (sSeq (sIf (asB (eBin eqV' (eNm 4) (eC (.int 3))))
 (sSeq (sRet (eIf (tru (eUn (isiV .tuple) (eNm 1))) (eUn listV (eNm 1)) (eUn tupleV (eNm 1))))
 sNil)
 (sSeq (sAsg (eCall (F "_law_spoilt") (aCons (eNm 0) (aCons (eBin ixV (eNm 2) (eNm 3)) aNil))) (gSb setL (eNm 2) (eNm 3)))
 sNil))
 sNil))
 sNil))
 sNil))
 (sSeq (sRet (eIf (tru (eUn (isiV .tuple) (eNm 1))) (eUn tupleV (eNm 2)) (eNm 2)))
 sNil)))))
/-- what is asked of a predicate on texts: the odd ones keep it -/
def OddP (P : Str → Prop) : Prop := P "" ∧ P "x" ∧ P "A" ∧ P "abcdefghi" ∧ P "ash"
def OddS (P : Str → Prop) (g : FnM) : Prop := ∀ (nb : Nat) (S : Sto) (Q : D → Sto → Prop), Bag nb S → (∀ r S', Thg P (fun m => S.length ≤ m) 2 S' 1 r → Bag nb S' → Fr nb S S' → Q r S') → W (g [.loc nb] S) Q
theorem odd_ok {P : Str → Prop} (hP : OddP P) {F : Str → FnM} (O : OfS (F "_law_of")) : OddS P (runL 1 1 (b_law_odd F)) := by
  intro nb S Q hb q
  refine w_runL rfl ?_
  unfold b_law_odd
  walk_at "w"
  refine O nb _ _ _ _ hb.push.push at_new (by rw [List.length_append]; have := hb.lt; omega) (by simp) (by simp) fun d S2 hd hb2 f2 _ => ?_
  walk_at "w"
  have hfr : Fr nb S S2 := .trans .push (.trans .push f2)
  have hl : S2[S.length]? = some (.lst []) := f2.at (at_left at_new) hb.ne
  obtain ⟨p1, p2, p3, p4, p5⟩ := hP
  refine q _ _ ?_ hb2 hfr
  simp only [List.mem_cons, List.not_mem_nil, or_false] at hd
  rcases hd with rfl | rfl | rfl | rfl | rfl | rfl | rfl | rfl | rfl | rfl | rfl | rfl | rfl | rfl
  · exact .inl trivial
  · exact .inl trivial
  · exact .inl trivial
  · exact .inl trivial
  · exact .inl trivial
  · exact .inl trivial
  · exact .inl p1
  · exact .inl p2
  · exact .inl p3
  · exact .inl p4
  · exact .inr ⟨_, .inl rfl, by simp, fun x hx => nomatch hx⟩
  · exact .inr ⟨_, .inr ⟨_, rfl, Nat.le_refl _, hl⟩, by simp, fun x hx => nomatch hx⟩
  · exact .inr ⟨_, .inl rfl, by simp, fun x hx => by rw [List.mem_singleton.mp hx]; exact p5⟩
  · refine .inr ⟨_, .inl rfl, by simp, fun x hx => ?_⟩
    simp only [List.mem_cons, List.not_mem_nil, or_false] at hx
    rcases hx with rfl | rfl
    · exact p5
    · exact trivial
/-- where a spoilt thing's lists may stand: where the thing's stood, or new -/
def SpoiltS (P : Str → Prop) (c n : Nat) (g : FnM) : Prop := ∀ (nb : Nat) (A : Nat → Prop) (S : Sto) (d : D) (Q : D → Sto → Prop), Bag nb S → (∀ m, A m → m ≠ nb) → Thg P A c S n d → (∀ r S', Thg P (fun m => A m ∨ S.length ≤ m) (c + 1) S' (n + 1) r → Bag nb S' → Fr nb S S' → Q r S') → W (g [.loc nb, d] S) Q
theorem mem_insert {α : Type} {xs : List α} {i : Nat} {y x : α} (h : x ∈ xs.take i ++ [y] ++ xs.drop i) : x = y ∨ x ∈ xs := by
  rcases List.mem_append.mp h with h | h
  · rcases List.mem_append.mp h with h | h
    · exact .inr (List.mem_of_mem_take h)
    · exact .inl (List.mem_singleton.mp h)
  · exact .inr (List.mem_of_mem_drop h)
theorem merge3 {R I : Nat → Sto → Prop} {P : Prop} (h : (∀ p S, I p S → R p S) → P) (k : ∀ p S, I p S → R p S) : P := h k
theorem merge2 {R I : Sto → Prop} {P : Prop} (h : (∀ S, I S → R S) → P) (k : ∀ S, I S → R S) : P := h k
theorem spoilt_ok {P : Str → Prop} {c n : Nat} (hc : 1 ≤ c) (hc2 : c < 900) {F : Str → FnM} (T : TakeS (F "_law_take")) (O : OfS (F "_law_of")) (OD : OddS P (F "_law_odd")) (IH : ∀ n', n = n' + 1 → SpoiltS P c n' (F "_law_spoilt")) : SpoiltS P c n (runL 2 5 (b_law_spoilt F)) := by
  intro nb A S d Q hb hA hd q
  obtain ⟨t, ht⟩ := hd.ty
  refine w_runL rfl ?_
  unfold b_law_spoilt
  walk_at "w"
  refine w_isi2 ht ?_
  refine tr_q rfl ?_
  apply merge2 (I := fun S0 => Bag nb S0 ∧ Fr nb S S0)
  · intro out
    by_cases hi : (isi t .tuple || isi t .list) = true
    · obtain ⟨n', xs, hn, hp, hlen, hxs⟩ := hd.parts ht hi
      have hlb : xs.length < big := by unfold big; omega
      rw [hi]
      walk_at "w"
      refine w_len hp.seq ?_
      walk_at "w"
      refine br_d ?ha fun hk => ?_
      rotate_left
      · walk_at "w"
        refine T nb S 6 _ hb (by decide) (by decide) fun r S1 h1 h2 hb1 f1 _ => ?_
        walk_at "w"
        refine br_d ?hc fun hk2 => ?_
        case hc =>
          intro hk
          walk_at "w"
          exact out S1 ⟨hb1, f1⟩
        walk_at "w"
        have hp1 : Pts A S1 d xs := hp.fr (f1.on hA)
        refine w_list hp1.seq ?_
        walk_at "w"
        have hL2 : (S1 ++ [Ob.lst xs])[S1.length]? = some (.lst xs) := at_new
        walk_at "w"
        have hx0 : 0 < xs.length := by omega
        have hpn : S1.length ≠ nb := hb1.ne
        have hpl : S.length ≤ S1.length := f1.1
        generalize S1.length = p at hL2 hpn hpl ⊢
        refine T nb _ _ _ hb1.push (by omega) (by omega) fun r3 S3 h30 h31 hb3 f3 _ => ?_
        obtain ⟨j, rfl⟩ : ∃ j : Nat, r3 = j := ⟨r3.toNat, by omega⟩
        have hj : j < xs.length := by omega
        obtain ⟨y, hy⟩ : ∃ y, xs[j]? = some y := ⟨_, List.getElem?_eq_getElem hj⟩
        have hym : y ∈ xs := List.mem_of_getElem? hy
        have hix : ixN xs.length (j : Int) = some j := by unfold ixN; rw [if_pos (by omega), if_pos (by omega)]; simp
        have hat : atI xs (j : Int) = some y := atI_nat hy
        walk_at "w"
        refine T nb _ _ _ hb3 (by decide) (by decide) fun r4 S4 h40 h41 hb4 f4 _ => ?_
        have hL4 : S4[p]? = some (.lst xs) := f4.at (f3.at hL2 hpn) hpn
        have fr4 : Fr nb S S4 := ((f1.trans .push).trans f3).trans f4
        have hp4 : Pts A S4 d xs := hp.fr (fr4.on hA)
        have hxs4 : ∀ x ∈ xs, Thg P A c S4 n' x := fun x hx => (hxs x hx).fr (fr4.on hA)
        walk_at "w"
        refine ⟨_, _, rfl, ⟨Nat.le_of_ble_eq_true rfl, Nat.le_of_ble_eq_true rfl⟩, ?_⟩
        walk_at "w"
        apply merge3 (I := fun p' S' => Bag nb S' ∧ Fr nb S S' ∧ S.length ≤ p' ∧ ∃ ys, S'[p']? = some (.lst ys) ∧ ys.length ≤ c + 1 ∧ ∀ x ∈ ys, Thg P (fun m => A m ∨ S.length ≤ m) (c + 1) S' n x)
        · intro fin
          refine br_d ?c0 fun k0 => ?_
          rotate_left
          · walk_at "w"
            refine br_d ?c1 fun k1 => ?_
            rotate_left
            · walk_at "w"
              refine br_d ?c2 fun k2 => ?_
              case c2 =>
                intro _
                walk_at "w"
                refine w_revL (lrd_loc hL4) ?_
                walk_at "w"
                have hb5 : Bag nb (S4 ++ [Ob.lst xs.reverse]) := hb4.push
                have f5 : Fr nb S (S4 ++ [Ob.lst xs.reverse]) := fr4.trans .push
                have hl5 : (S4 ++ [Ob.lst xs.reverse])[S4.length]? = some (Ob.lst xs.reverse) := at_new
                have hn5 : S.length ≤ S4.length := fr4.1
                have hx5 : ∀ x ∈ xs.reverse, Thg P (fun m => A m ∨ S.length ≤ m) (c + 1) (S4 ++ [Ob.lst xs.reverse]) n x := fun x hx => ((hxs x (List.mem_reverse.mp hx)).fr (f5.on hA)).up (by omega) (fun _ => .inl) (by omega)
                generalize S4.length = p5 at hl5 hn5 ⊢
                generalize (S4 ++ [Ob.lst xs.reverse] : Sto) = S5 at hb5 f5 hl5 hx5 ⊢
                exact fin p5 S5 ⟨hb5, f5, hn5, _, hl5, by rw [List.length_reverse]; omega, hx5⟩
              walk_at "w"
              refine br_d (fun k3 => ?_) fun k3 => ?_
              · walk_at "w"
                obtain ⟨t4, ht4⟩ := (hd.fr (fr4.on hA)).ty
                refine w_isi ht4 ?_
                refine tr_q rfl ?_
                rcases hp4 with rfl | ⟨m, rfl, hm, hl⟩
                · cases ht4
                  refine br_tr rfl ?_
                  walk_at "w"
                  refine w_list rfl ?_
                  walk_at "w"
                  exact q _ _ (.inr ⟨xs, .inr ⟨_, rfl, .inr fr4.1, at_new⟩, by omega, fun x hx => ((hxs x hx).fr ((fr4.trans .push).on hA)).up (by omega) (fun _ => .inl) (by omega)⟩) hb4.push (fr4.trans .push)
                · rw [ty_loc hl] at ht4
                  cases ht4
                  refine br_fl rfl ?_
                  walk_at "w"
                  refine w_tupleL (lrd_loc hl) ?_
                  walk_at "w"
                  exact q _ _ (.inr ⟨xs, .inl rfl, by omega, fun x hx => (hxs4 x hx).up (by omega) (fun _ => .inl) (by omega)⟩) hb4 fr4
              · walk_at "w"
                refine w_ixL hL4 hat ?_
                walk_at "w"
                refine IH n' hn nb (fun m => A m ∧ m < S.length) S4 y _ hb4 (fun m hm => hA m hm.1) ((hxs y hym).lt.fr (fr4.on fun m hm => hA m hm.1)) fun r5 S5 hr5 hb5 f5 => ?_
                walk_at "w"
                have hL5 := f5.at hL4 hpn
                have hp45 := lt_of hL4
                refine w_setL hL5 hix ?_
                walk_at "w"
                have hfs : Fr nb S (S5.set p (.lst (xs.set j r5))) := (fr4.trans f5).set_new hpl
                refine fin p _ ⟨hb5.set hpn, hfs, hpl, _, List.getElem?_set_self (lt_of hL5), by rw [List.length_set]; omega, fun x hx => ?_⟩
                rcases List.mem_or_eq_of_mem_set hx with hx | rfl
                · exact ((hxs x hx).fr (hfs.on hA)).up (by omega) (fun _ => .inl) (by omega)
                · refine (hr5.fr (On.set (fun z => ?_))).up (Nat.le_refl _) (fun m hm => ?_) (by omega)
                  · rcases z with z | z <;> omega
                  · rcases hm with hm | hm
                    · exact .inl hm.1
                    · exact .inr (Nat.le_trans fr4.1 hm)
            · intro k1
              walk_at "w"
              refine w_ixL hL4 hat ?_
              walk_at "w"
              refine w_insert hL4 ⟨hlb, by omega, by omega⟩ ?_
              walk_at "w"
              have hfs : Fr nb S (S4.set p (.lst (xs.take (Int.toNat j) ++ [y] ++ xs.drop (Int.toNat j)))) := fr4.set_new hpl
              refine fin p _ ⟨hb4.set hpn, hfs, hpl, _, List.getElem?_set_self (lt_of hL4), by simp; omega, fun x hx => ?_⟩
              have hx : x ∈ xs := by
                rcases mem_insert hx with rfl | hx
                · exact hym
                · exact hx
              exact ((hxs x hx).fr (hfs.on hA)).up (by omega) (fun _ => .inl) (by omega)
          · intro k0
            walk_at "w"
            refine w_popAt hL4 (by omega) hix hy ?_
            walk_at "w"
            have hfs : Fr nb S (S4.set p (.lst (xs.eraseIdx j))) := fr4.set_new hpl
            refine fin p _ ⟨hb4.set hpn, hfs, hpl, _, List.getElem?_set_self (lt_of hL4), by have := List.length_eraseIdx_le xs j; omega, fun x hx => ?_⟩
            exact ((hxs x (List.mem_of_mem_eraseIdx hx)).fr (hfs.on hA)).up (by omega) (fun _ => .inl) (by omega)
        · rintro p' S' ⟨hb', f', hn', ys, hl', hlen', hys⟩
          have hp' : Pts A S' d xs := hp.fr (f'.on hA)
          walk_at "w"
          obtain ⟨t4, ht4⟩ := (hd.fr (f'.on hA)).ty
          refine w_isi ht4 ?_
          refine tr_q rfl ?_
          rcases hp' with rfl | ⟨m, rfl, hm, hl⟩
          · cases ht4
            refine br_tr rfl ?_
            walk_at "w"
            refine w_tupleL (lrd_loc hl') ?_
            walk_at "w"
            exact q _ _ (.inr ⟨ys, .inl rfl, hlen', hys⟩) hb' f'
          · rw [ty_loc hl] at ht4
            cases ht4
            refine br_fl rfl ?_
            walk_at "w"
            exact q _ _ (.inr ⟨ys, .inr ⟨_, rfl, .inr hn', hl'⟩, hlen', hys⟩) hb' f'
      · intro hk
        walk_at "w"
        exact out S ⟨hb, .refl⟩
    · rw [Bool.not_eq_true] at hi
      rw [hi]
      walk_at "w"
      exact out S ⟨hb, .refl⟩
  · rintro S0 ⟨hb0, f0⟩
    obtain ⟨t, ht⟩ := (hd.fr (f0.on hA)).ty
    refine w_isi ht ?_
    refine tr_q rfl ?_
    apply merge2 (I := fun S0 => Bag nb S0 ∧ Fr nb S S0)
    · intro last
      by_cases hi : isi t .int = true
      · rw [hi]
        walk_at "w"
        refine T nb S0 2 _ hb0 (by decide) (by decide) fun r S1 h1 h2 hb1 f1 _ => ?_
        walk_at "w"
        refine br_d ?hc fun hk => ?hd
        case hd =>
          walk_at "w"
          exact last S1 ⟨hb1, f0.trans f1⟩
        intro hk
        walk_at "w"
        refine O nb _ _ _ _ hb1.push at_new hb1.ne (by simp) (by simp) fun e S2 he hb2 f2 _ => ?_
        have f3 : Fr nb S S2 := (f0.trans f1).trans (.trans .push f2)
        have he : ∃ k, e = .int k := by
          simp only [List.mem_cons, List.not_mem_nil, or_false] at he
          rcases he with rfl | rfl | rfl | rfl | rfl <;> exact ⟨_, rfl⟩
        obtain ⟨k, rfl⟩ := he
        cases d with
        | int i =>
          walk_at "w"
          exact q _ _ (Thg.sca (P := P) (d := .int _) True.intro) hb2 f3
        | bl b =>
          refine w_addB ?_
          walk_at "w"
          exact q _ _ (Thg.sca (P := P) (d := .int _) True.intro) hb2 f3
        | non => cases ht; exact absurd hi (by decide)
        | str x => cases ht; exact absurd hi (by decide)
        | tup xs => cases ht; exact absurd hi (by decide)
        | rol xs => cases ht; exact absurd hi (by decide)
        | fn x => cases ht
        | loc m =>
          have : t = .list := by
            unfold tyOf at ht
            dsimp only at ht
            split at ht
            · cases ht; rfl
            · cases ht
          subst this
          exact absurd hi (by decide)
      · rw [Bool.not_eq_true] at hi
        rw [hi]
        walk_at "w"
        exact last S0 ⟨hb0, f0⟩
    · rintro S1 ⟨hb1, f1⟩
      refine OD nb S1 _ hb1 fun r S2 hr hb2 f2 => ?_
      walk_at "w"
      exact q r S2 (hr.up (by omega) (fun m hm => .inr (Nat.le_trans f1.1 hm)) (by omega)) hb2 (f1.trans f2)
end Bz

set_option Elab.async false
set_option linter.all false
set_option maxRecDepth 100000
set_option maxHeartbeats 4000000
set_option pp.deepTerms false
set_option pp.deepTerms.threshold 3
/-! Bz, whether a thing is days. -/
namespace Bz
open PySem PySem.Spec PyProof.Rows L2
local macro_rules | `(tactic| walk_at "w") => `(tactic| repeat (first
  | with_reducible refine w_sSeq ?_ | with_reducible refine w_sIf ?_ | with_reducible refine w_sAsg ?_ | with_reducible refine w_sRet ?_ | with_reducible refine w_sNil ?_ | with_reducible refine w_sExpr ?_ | with_reducible refine w_sFor ?_
  | with_reducible refine w_asB ?_ | with_reducible refine w_tru ?_ | with_reducible refine w_tsAnd ?_ | with_reducible refine w_tsOr ?_ | with_reducible refine w_tsNot ?_ | with_reducible refine w_tsYes ?_ | with_reducible refine w_and ?_ | with_reducible refine w_or ?_ | with_reducible refine w_not ?_ | with_reducible refine w_eIf ?_
  | with_reducible refine w_bin ?_ | with_reducible refine w_un ?_ | with_reducible refine w_chain ?_ | with_reducible refine w_nm rfl ?_ | with_reducible refine w_c ?_ | with_reducible refine w_stlV ?_ | with_reducible refine w_stlN ?_
  | with_reducible refine w_aNil ?_ | with_reducible refine w_aCons ?_ | with_reducible refine w_eTup ?_ | with_reducible refine w_eLst ?_ | with_reducible refine w_call ?_ | with_reducible refine w_eSl ?_ | with_reducible refine w_ptNo ?_ | with_reducible refine w_ptI ?_ | with_reducible refine w_m1 ?_ | with_reducible refine w_m2 ?_ | with_reducible refine w_eLc ?_
  | with_reducible refine dl_q (Nat.le_of_ble_eq_true rfl) ?_ | with_reducible refine int_q ?_ | with_reducible refine as_q ?_
  | with_reducible refine ty_q (ty_loc (by assumption)) ?_
  | with_reducible refine sq_nx ?_ | with_reducible refine sq_rt ?_ | with_reducible refine sq_bk ?_ | with_reducible refine sq_ct ?_ | with_reducible refine fq_rt ?_ | with_reducible refine fq_nx ?_ | with_reducible refine tq_nx ?_ | with_reducible refine tq_ct ?_ | with_reducible refine tq_bk ?_ | with_reducible refine tq_rt ?_
  | with_reducible refine w_srA ?_ | with_reducible refine w_srR1 ?_ | with_reducible refine w_srR2 ?_ | with_reducible refine w_srZ ?_
  | with_reducible refine src_q (src_loc (by assumption)) ?_ | with_reducible refine src_q rfl ?_
  | with_reducible refine w_addI ?_ | with_reducible refine w_subI ?_ | with_reducible refine w_mulI (by omega) ?_ | with_reducible refine w_divI (by omega) (by omega) ?_ | with_reducible refine w_modI (by first | omega | decide +kernel) ?_ | with_reducible refine w_powI rfl ?_ | with_reducible refine w_neg ?_ | with_reducible refine w_iaddI ?_
  | with_reducible refine w_max ?_ | with_reducible refine w_min ?_ | with_reducible refine w_abs ?_
  | with_reducible refine w_gtI ?_ | with_reducible refine w_ltI ?_ | with_reducible refine w_leI ?_ | with_reducible refine w_geI ?_ | with_reducible refine w_eqI ?_ | with_reducible refine w_neI ?_ | with_reducible refine w_eqS ?_ | with_reducible refine w_neS ?_
  | with_reducible refine w_ixT rfl ?_ | with_reducible refine w_ixR rfl ?_ | with_reducible refine w_ixL (by assumption) rfl ?_
  | with_reducible refine w_len (seq_loc (by assumption)) ?_ | with_reducible refine w_len rfl ?_
  | with_reducible refine w_gNm (Nat.le_of_ble_eq_true rfl) ?_ | with_reducible refine w_gSb ?_ | with_reducible refine w_gTp rfl ?_ | with_reducible refine w_gsCons ?_ | with_reducible refine w_gsNil ?_
  | with_reducible refine w_sPar2 ?_ | with_reducible refine w_sPar3 ?_ | with_reducible refine w_sAug rfl ?_
  | with_reducible refine br_n ?_ | with_reducible refine br_t ?_ | with_reducible refine br_f ?_))
def b_are_days (F : Str → FnM) : StM :=
 (sSeq (sIf (tsOr (tsNot (tru (eUn (isiV .list) (eNm 3)))) (asB (eBin neV' (eUn lenV (eNm 3)) (eUn lenV (eNm 2)))))
 (sSeq (sRet (eC (.bl false)))
 sNil)
 sNil)
 (sSeq (sFor (srZ (eNm 2) (eNm 3)) (gTp 2 (gsCons (gNm 4) (gsCons (gNm 5) gsNil)))
 (sSeq (sIf (tsOr (tsNot (tru (eUn (isiV .tuple) (eNm 5)))) (tsOr (asB (eBin neV' (eUn lenV (eNm 5)) (eC (.int 2)))) (tsNot (tru (eUn allV (eLc [6] (srA (eNm 5)) (gNm 6) tsYes (eCall (F "is_from") (aCons (eNm 6) (aCons (eC (.int 0)) (aCons (eBin powV (eC (.int 10)) (eC (.int 12))) aNil))))))))))
 (sSeq (sRet (eC (.bl false)))
 sNil)
 sNil)
 (sSeq (sAug 1 iaddV (eBin subV (eBin subV (eNm 4) (eBin ixV (eNm 5) (eC (.int 0)))) (eBin ixV (eNm 5) (eC (.int 1)))))
 (sSeq (sIf (tsOr (asB (eBin gtV (eBin ixV (eNm 5) (eC (.int 0))) (eBin ixV (eNm 0) (eC (.int 0))))) (tsNot (asB (eChain leV leV (eC (.int 0)) (eNm 1) (eBin ixV (eNm 0) (eC (.int 1)))))))
 (sSeq (sRet (eC (.bl false)))
 sNil)
 sNil)
 sNil))))
 (sSeq (sRet (eC (.bl true)))
 sNil)))
def tyD : D → Ty
  | .non => .none
  | .bl _ => .bool
  | .int _ => .int
  | .str _ => .str
  | .tup _ => .tuple
  | .rol _ => .list
  | .loc _ => .list
  | .fn _ => .none
theorem thg_ty {P : Str → Prop} {A : Nat → Prop} {c : Nat} {S : Sto} {n : Nat} {d : D} (h : Thg P A c S n d) : tyOf (.val d) S = some (tyD d) := by
  have sc : Sca P d → tyOf (.val d) S = some (tyD d) := fun z => by cases d <;> first | rfl | exact z.elim
  cases n with
  | zero => exact sc h
  | succ n =>
    rcases h with h | ⟨xs, h, _⟩
    · exact sc h
    · rcases h with rfl | ⟨m, rfl, _, h⟩
      · rfl
      · exact ty_loc h
def isFrom (lo hi : Int) : D → Bool
  | .int i => decide (lo ≤ i ∧ i ≤ hi)
  | _ => false
def IsFromS (g : FnM) : Prop := ∀ (d : D) (lo hi : Int) (S : Sto) (Q : D → Sto → Prop), tyOf (.val d) S = some (tyD d) → Q (.bl (isFrom lo hi d)) S → W (g [d, .int lo, .int hi] S) Q
theorem isFrom_ok (F : Str → FnM) : IsFromS (runL 3 3 (b_is_from F)) := by
  intro d lo hi S Q ht q
  refine w_runL rfl ?_
  unfold b_is_from
  walk_at "w"
  refine w_isi ht ?_
  refine tx_q rfl ?_
  cases d with
  | int i =>
    refine br_tr rfl ?_
    walk_at "w"
    refine w_isi ht ?_
    refine tr_q rfl ?_
    refine tx_q rfl ?_
    refine br_tr rfl ?_
    walk_at "w"
    refine br_d (fun h1 => ?_) fun h1 => ?_
    · walk_at "w"
      have : (decide (lo ≤ i ∧ i ≤ hi)) = decide (i ≤ hi) := decide_eq_decide.mpr ⟨fun z => z.2, fun z => ⟨h1, z⟩⟩
      rw [← this]
      exact q
    · walk_at "w"
      have : decide (lo ≤ i ∧ i ≤ hi) = false := decide_eq_false fun z => h1 z.1
      rw [← this]
      exact q
  | bl b =>
    refine br_tr rfl ?_
    walk_at "w"
    refine w_isi ht ?_
    refine tr_q rfl ?_
    refine tx_q rfl ?_
    refine br_fl rfl ?_
    walk_at "w"
    exact q
  | _ =>
    refine br_fl rfl ?_
    walk_at "w"
    exact q
/-- whether a day's row is let: what stays then -/
def rowF (b k t c : Int) : D → Option Int
  | .tup [.int x, .int y] => if 0 ≤ x ∧ 0 ≤ y ∧ x ≤ b ∧ 0 ≤ t + c - x - y ∧ t + c - x - y ≤ k then some (t + c - x - y) else none
  | _ => none
def goF (b k : Int) : Int → List (Int × D) → Bool
  | _, [] => true
  | t, (c, row) :: r => match rowF b k t c row with
    | some t' => goF b k t' r
    | none => false
def areF (S : Sto) (b k t : Int) (cs : List Int) (thing : D) : Bool := match thing with
  | .loc m => (match S[m]? with
    | some (.lst xs) => decide (xs.length = cs.length) && goF b k t (cs.zip xs)
    | _ => false)
  | _ => false
theorem goF_none {b k t c : Int} {row : D} {r : List (Int × D)} (h : rowF b k t c row = none) : goF b k t ((c, row) :: r) = false := by
  show (match rowF b k t c row with
    | some t' => goF b k t' r
    | none => false) = false
  rw [h]
theorem goF_some {b k t c t' : Int} {row : D} {r : List (Int × D)} (h : rowF b k t c row = some t') : goF b k t ((c, row) :: r) = goF b k t' r := by
  show (match rowF b k t c row with
    | some t' => goF b k t' r
    | none => false) = _
  rw [h]
theorem rowF_le {b k t c t' : Int} {row : D} (h : rowF b k t c row = some t') : 0 ≤ t' ∧ t' ≤ k := by
  unfold rowF at h
  split at h
  · split at h
    · cases h; omega
    · cases h
  · cases h
theorem drop_get {α : Type} {xs : List α} {i : Nat} {x : α} (h : xs[i]? = some x) : xs.drop i = x :: xs.drop (i + 1) := by
  obtain ⟨h1, h2⟩ := List.getElem?_eq_some_iff.mp h
  rw [List.drop_eq_getElem_cons h1, h2]
theorem rowF_len {b k t c : Int} {ys : List D} (h : ys.length ≠ 2) : rowF b k t c (.tup ys) = none := by
  unfold rowF
  split
  · rename_i e
    cases e
    exact absurd rfl h
  · rfl
/-- a number from nought on -/
def isNum : D → Prop
  | .int i => 0 ≤ i
  | _ => False
theorem rowF_num {b k t c : Int} {u v : D} (h : ¬ (isNum u ∧ isNum v)) : rowF b k t c (.tup [u, v]) = none := by
  unfold rowF
  split
  · rename_i x y e
    cases e
    rw [if_neg fun z => h ⟨z.1, z.2.1⟩]
  · rfl
/-- what is asked of a def that tells whether a thing is days -/
def AreS (g : FnM) : Prop := ∀ (P : Str → Prop) (A : Nat → Prop) (b k t : Int) (m c n : Nat) (cs : List Int) (S : Sto) (thing : D) (Q : D → Sto → Prop), 0 ≤ b → b ≤ 30 → 0 ≤ k → k ≤ 60 → 0 ≤ t → t ≤ 100 → S[m]? = some (.lst (cs.map D.int)) → (∀ x ∈ cs, (0 : Int) ≤ x ∧ x < 50) →
  cs.length < 10000 → Thg P A c S n thing → Q (.bl (areF S b k t cs thing)) S → W (g [boundsD b k, .int t, .loc m, thing] S) Q
theorem are_ok {F : Str → FnM} (IF : IsFromS (F "is_from")) : AreS (runL 4 7 (b_are_days F)) := by
  intro P A b k t m c n cs S thing Q b0 b1 k0 k1 t0 t1 hm hcs hlc hd q
  refine w_runL rfl ?_
  unfold b_are_days
  walk_at "w"
  refine w_isi (thg_ty hd) ?_
  refine tr_q rfl ?_
  have no : ∀ t', tyD thing = t' → isi t' .list = false → areF S b k t cs thing = false := fun t' e z => by
    subst e
    cases thing <;> first | rfl | (exact Bool.noConfusion z)
  cases hi : isi (tyD thing) .list with
  | false =>
    rw [no _ rfl hi] at q
    walk_at "w"
    exact q
  | true =>
    obtain ⟨n', xs, rfl, hp, hlx, hxs⟩ := hd.parts (thg_ty hd) (by rw [hi, Bool.or_true])
    rcases hp with rfl | ⟨p, rfl, hA, hpl⟩
    · exact Bool.noConfusion hi
    have eA : areF S b k t cs (.loc p) = (decide (xs.length = cs.length) && goF b k t (cs.zip xs)) := by
      unfold areF
      simp only [hpl]
    rw [eA] at q
    walk_at "w"
    refine br_d (fun hk => ?_) fun hk => ?_
    · have hk : xs.length = cs.length := by rw [List.length_map] at hk; omega
      rw [decide_eq_true hk, Bool.true_and] at q
      walk_at "w"
      refine ⟨_, _, src_loc hm, src_loc hpl, rfl, ?_⟩
      have hgok : gok ((cs.map D.int, [(m, cs.map D.int)]).2 ++ (xs, [(p, xs)]).2) S = true := gok_cons hm (gok_cons hpl gok_nil)
      refine w_forGo (fun i env S' => S' = S ∧ ∃ t' e4 e5 e6, env = [some (boundsD b k), some (.int t'), some (.loc m), some (.loc p), e4, e5, e6] ∧ 0 ≤ t' ∧ t' ≤ 100 ∧ goF b k t (cs.zip xs) = goF b k t' ((cs.zip xs).drop i)) ⟨rfl, t, _, _, _, rfl, t0, t1, rfl⟩ ?_ ?_
      · rintro i x env S' hx ⟨rfl, t', e4, e5, e6, rfl, t0', t1', hgo⟩
        refine ⟨hgok, ?_⟩
        obtain ⟨y, row, hy, hrow, rfl⟩ := zipD_get hx
        obtain ⟨c', hc, rfl⟩ := map_get hy
        have hz : (cs.zip xs)[i]? = some (c', row) := List.getElem?_zip_eq_some.mpr ⟨hc, hrow⟩
        rw [drop_get hz] at hgo
        have hrt := hxs row (List.mem_of_getElem? hrow)
        have hc50 := hcs c' (List.mem_of_getElem? hc)
        have bad : rowF b k t' c' row = none → Q (.bl false) S' := fun z => by
          rw [hgo, goF_none z] at q
          exact q
        walk_at "w"
        refine w_isi (thg_ty hrt) ?_
        refine tr_q rfl ?_
        cases row with
        | tup ys =>
          refine br_n ?_
          refine br_tr rfl ?_
          walk_at "w"
          refine br_d (fun hl2 => ?_) fun hl2 => ?_
          · match ys, hl2 with
            | [u, v], _ =>
              have huv : tyOf (.val u) S' = some (tyD u) ∧ tyOf (.val v) S' = some (tyD v) := by
                cases n' with
                | zero => exact hrt.elim
                | succ n' =>
                  rcases hrt with hz | ⟨zs, hz | ⟨_, hz, _⟩, hl3, hzs⟩
                  · exact hz.elim
                  · cases hz
                    exact ⟨thg_ty (hzs u (by simp)), thg_ty (hzs v (by simp))⟩
                  · cases hz
              walk_at "w"
              refine ⟨by show 2 < big; decide, ?_⟩
              refine w_lcons gok_nil ?_
              walk_at "w"
              refine IF u _ _ _ _ huv.1 ?_
              walk_at "w"
              refine w_lcons gok_nil ?_
              walk_at "w"
              refine IF v _ _ _ _ huv.2 ?_
              walk_at "w"
              refine w_lnil gok_nil ?_
              refine w_all (ns := [isFrom 0 (10 ^ Int.toNat 12) u, isFrom 0 (10 ^ Int.toNat 12) v]) rfl ?_
              refine tr_q rfl ?_
              refine br_n ?_
              by_cases hn : isNum u ∧ isNum v
              · obtain ⟨n1, n2⟩ := hn
                cases u with
                | int x =>
                  cases v with
                  | int y =>
                    have n1 : 0 ≤ x := n1
                    have n2 : 0 ≤ y := n2
                    by_cases hgreat : x ≤ 10 ^ Int.toNat 12 ∧ y ≤ 10 ^ Int.toNat 12
                    · refine br_tr (by show (decide _ && (decide _ && true)) = true; rw [decide_eq_true ⟨n1, hgreat.1⟩, decide_eq_true ⟨n2, hgreat.2⟩]; rfl) ?_
                      walk_at "w"
                      refine br_d (fun h1 => ?_) fun h1 => ?_
                      · walk_at "w"
                        exact bad (if_neg fun z => by omega)
                      walk_at "w"
                      refine br_d (fun h2 => ?_) fun h2 => ?_
                      · walk_at "w"
                        refine br_d (fun h3 => ?_) fun h3 => ?_
                        · walk_at "w"
                          refine ⟨rfl, t' + (c' - x - y), _, _, _, rfl, by omega, by omega, ?_⟩
                          rw [hgo]
                          refine goF_some (if_pos ⟨n1, n2, by omega, by omega, by omega⟩ |>.trans ?_)
                          congr 1
                          omega
                        · walk_at "w"
                          exact bad (if_neg fun z => by omega)
                      · walk_at "w"
                        exact bad (if_neg fun z => by omega)
                    · refine br_fl ?_ ?_
                      · show (decide _ && (decide _ && true)) = false
                        rw [Bool.and_true, ← Bool.decide_and]
                        exact decide_eq_false fun z => hgreat ⟨z.1.2, z.2.2⟩
                      walk_at "w"
                      refine bad (if_neg fun z => hgreat ?_)
                      have : (10 : Int) ^ Int.toNat 12 = 1000000000000 := by decide
                      omega
                  | _ => exact n2.elim
                | _ => exact n1.elim
              · refine br_fl ?_ ?_
                · show (isFrom 0 _ u && (isFrom 0 _ v && true)) = false
                  rw [Bool.and_true, Bool.and_eq_false_iff]
                  refine Classical.byContradiction fun z => hn ⟨?_, ?_⟩
                  · cases u with
                    | int x =>
                      refine Classical.byContradiction fun n1 => z (.inl ?_)
                      exact decide_eq_false fun z => n1 z.1
                    | _ => exact absurd (.inl rfl) z
                  · cases v with
                    | int x =>
                      refine Classical.byContradiction fun n1 => z (.inr ?_)
                      exact decide_eq_false fun z => n1 z.1
                    | _ => exact absurd (.inr rfl) z
                · walk_at "w"
                  exact bad (rowF_num hn)
          · walk_at "w"
            refine bad ?_
            exact rowF_len fun z => hl2 (by rw [z]; rfl)
        | _ =>
          walk_at "w"
          refine br_fl rfl ?_
          walk_at "w"
          exact bad rfl
      · rintro env S' ⟨rfl, t', e4, e5, e6, rfl, t0', t1', hgo⟩
        refine ⟨hgok, ?_⟩
        walk_at "w"
        have hz : (cs.zip xs).drop (zipD (cs.map D.int) xs).length = [] := List.drop_of_length_le (by simp [zipD])
        rw [hgo, hz] at q
        exact q
    · have hk : ¬ xs.length = cs.length := by rw [List.length_map] at hk; omega
      rw [decide_eq_false hk, Bool.false_and] at q
      walk_at "w"
      exact q
end Bz

set_option Elab.async false
set_option linter.all false
set_option maxRecDepth 100000
set_option maxHeartbeats 2000000
/-! Bz, what the top has written. -/
namespace Bz
open PySem PySem.Spec PyProof.Rows L2
theorem fd_mk {K : PySem.W.Frag} {h : Heap} {mg : Str → Option Value} {f : Addr} {fd : FD} {od an : Option Addr} {sl : Array (Option Value)} {oc kV dc pm cd ct : Value} (X : K.In h) (G : h.Ns mainGlobals mg)
    (a : PySem.W.nsIn K mainGlobals fd.name = some (some (.ref f))) (l : K.lookup f = some ⟨oc, od, .func (PySem.W.fnOf fd.name fd.name (defArgs fd.st) (defBody fd.st) (defScope fd.st) .none kV dc pm an cd ct), sl⟩) (c : PySem.W.codeIn K cd fd.name = true) (k : PySem.W.keepIn K (.ref f) = true)
    (S : FnScope fd.N fd.ps (defScope fd.st))
    (hb : ∀ (kV doc pm : Value) (an : Option Addr) (cdv ct : Value) (us : List Value), us.length = fd.ps.length → bindArgs (PySem.W.fnOf fd.name fd.name (defArgs fd.st) (defBody fd.st) (defScope fd.st) .none kV doc pm an cdv ct) ⟨us, []⟩ = pure (fd.ps.zip us))
    (hg : ∀ x i, fd.gl.lookup x = some i → ∃ t, mg x = some (.int i t)) :
    FdOk K mg fd f (PySem.W.fnOf fd.name fd.name (defArgs fd.st) (defBody fd.st) (defScope fd.st) .none kV dc pm an cd ct) :=
  have F := fun_mk l c k
  ⟨F, S, PySem.W.mg_of X G a, F.binds hb, hg⟩
theorem gl_nil {mg : Str → Option Value} : ∀ x i, ([] : List (Str × Int)).lookup x = some i → ∃ t, mg x = some (.int i t) := fun _ _ h => nomatch h
theorem gl_cons {K : PySem.W.Frag} {h : Heap} {mg : Str → Option Value} {n : Str} {v : Int} {t : Tok} {r : List (Str × Int)} (X : K.In h) (G : h.Ns mainGlobals mg) (a : PySem.W.nsIn K mainGlobals n = some (some (.int v t)))
    (hr : ∀ x i, r.lookup x = some i → ∃ t, mg x = some (.int i t)) : ∀ x i, ((n, v) :: r).lookup x = some i → ∃ t, mg x = some (.int i t) := fun x i q => by
  rw [List.lookup_cons] at q
  split at q
  · rename_i e
    cases q
    rw [eq_of_beq e]
    exact ⟨t, PySem.W.mg_of X G a⟩
  · exact hr x i q
theorem blt_mk {K : PySem.W.Frag} {h : Heap} {mg : Str → Option Value} (X : K.In h) (G : h.Ns mainGlobals mg)
    (z1 : PySem.W.nsIn K mainGlobals "len" = some none) (z2 : PySem.W.nsIn K mainGlobals "abs" = some none) (z3 : PySem.W.nsIn K mainGlobals "max" = some none) (z4 : PySem.W.nsIn K mainGlobals "min" = some none) (z5 : PySem.W.nsIn K mainGlobals "sum" = some none) (z6 : PySem.W.nsIn K mainGlobals "all" = some none) (z7 : PySem.W.nsIn K mainGlobals "list" = some none) (z8 : PySem.W.nsIn K mainGlobals "tuple" = some none) (z9 : PySem.W.nsIn K mainGlobals "isinstance" = some none) (z10 : PySem.W.nsIn K mainGlobals "int" = some none) (z11 : PySem.W.nsIn K mainGlobals "bool" = some none) (z12 : PySem.W.nsIn K mainGlobals "str" = some none) (z13 : PySem.W.nsIn K mainGlobals "dict" = some none) (z14 : PySem.W.nsIn K mainGlobals "range" = some none) (z15 : PySem.W.nsIn K mainGlobals "zip" = some none) (z16 : PySem.W.nsIn K mainGlobals "sorted" = some none) (z17 : PySem.W.nsIn K mainGlobals "set" = some none) (z18 : PySem.W.nsIn K mainGlobals "enumerate" = some none) :
    ∀ x ∈ bltNames, mg x = none := by
  intro x hx
  refine PySem.W.mg_none_of X G ?_
  unfold bltNames at hx
  simp only [List.mem_cons, List.not_mem_nil, or_false] at hx
  rcases hx with rfl | rfl | rfl | rfl | rfl | rfl | rfl | rfl | rfl | rfl | rfl | rfl | rfl | rfl | rfl | rfl | rfl | rfl <;> assumption
end Bz

set_option Elab.async false
set_option linter.all false
set_option maxRecDepth 100000
set_option maxHeartbeats 4000000
namespace Bz.K12
open PySem PySem.Spec PyProof.Rows L2
def topS (i : Nat) : Stmt := PySem.Challenge.pw_binround_k12_whole_days_send_the_least.main.body.getD i (.Pass ⟨0, 0, 0, 0⟩)
abbrev f_is_from : FD := ⟨"is_from", topS 1, ["thing", "low", "high"], ["thing", "low", "high"], []⟩
abbrev f_day_of : FD := ⟨"day_of", topS 3, ["limits", "there", "burnt"], ["limits", "there"], []⟩
abbrev f_days : FD := ⟨"days", topS 4, ["limits", "there", "comes", "found", "more", "row"], ["limits", "there", "comes"], []⟩
abbrev f_are_days : FD := ⟨"are_days", topS 5, ["limits", "there", "comes", "thing", "more", "row", "part"], ["limits", "there", "comes", "thing"], []⟩
abbrev f_law_bag : FD := ⟨"_law_bag", topS 7, ["script", "k", "cell", "seed"], ["script", "k"], []⟩
abbrev f_law_take : FD := ⟨"_law_take", topS 8, ["bag", "count", "found"], ["bag", "count"], []⟩
abbrev f_law_of : FD := ⟨"_law_of", topS 9, ["bag", "some"], ["bag", "some"], []⟩
abbrev f_law_limits : FD := ⟨"_law_limits", topS 10, ["bag"], ["bag"], []⟩
abbrev f_law_comes : FD := ⟨"_law_comes", topS 11, ["bag", "most", "many", "turn"], ["bag", "most"], []⟩
abbrev f_law_stays : FD := ⟨"_law_stays", topS 12, ["there", "comes", "rows", "found", "more", "row"], ["there", "comes", "rows"], []⟩
abbrev f_law_all_days : FD := ⟨"_law_all_days", topS 13, ["limits_so", "there", "comes", "found", "have", "burnt", "sent", "rest"], ["limits_so", "there", "comes"], []⟩
abbrev f_law_rank : FD := ⟨"_law_rank", topS 14, ["rows", "part", "burnt", "sent"], ["rows"], []⟩
abbrev f_law : FD := ⟨"law", topS 15, ["script", "k", "bag", "bounds", "comes", "there", "told", "have", "more", "burnt", "sent", "stays", "small", "few", "turn", "begun", "due", "rows", "great"], ["script"], []⟩
abbrev tab : List FD := [f_is_from, f_day_of, f_days, f_are_days, f_law_bag, f_law_take, f_law_of, f_law_limits, f_law_comes, f_law_stays, f_law_all_days, f_law_rank, f_law]
theorem q_is_from (F : Str → FnM) : cBody (ccOf tab F f_is_from) (defScope f_is_from.st) (defBody f_is_from.st) = some (b_is_from F) := by kernel_rfl
theorem s_is_from (n : Nat) (ds : List D) (S : Sto) : semF tab (n + 1) "is_from" ds S = runL 3 3 (b_is_from (semF tab n)) ds S := sem_of (fd := f_is_from) (by kernel_rfl) (q_is_from _) ds S
theorem e_is_from (n : Nat) : semF tab (n + 1) "is_from" = runL 3 3 (b_is_from (semF tab n)) := funext fun ds => funext fun S => s_is_from n ds S
theorem q_day_of (F : Str → FnM) : cBody (ccOf tab F f_day_of) (defScope f_day_of.st) (defBody f_day_of.st) = some (b_day_of F) := by kernel_rfl
theorem s_day_of (n : Nat) (ds : List D) (S : Sto) : semF tab (n + 1) "day_of" ds S = runL 2 3 (b_day_of (semF tab n)) ds S := sem_of (fd := f_day_of) (by kernel_rfl) (q_day_of _) ds S
theorem e_day_of (n : Nat) : semF tab (n + 1) "day_of" = runL 2 3 (b_day_of (semF tab n)) := funext fun ds => funext fun S => s_day_of n ds S
theorem q_days (F : Str → FnM) : cBody (ccOf tab F f_days) (defScope f_days.st) (defBody f_days.st) = some (b_days F) := by kernel_rfl
theorem s_days (n : Nat) (ds : List D) (S : Sto) : semF tab (n + 1) "days" ds S = runL 3 6 (b_days (semF tab n)) ds S := sem_of (fd := f_days) (by kernel_rfl) (q_days _) ds S
theorem e_days (n : Nat) : semF tab (n + 1) "days" = runL 3 6 (b_days (semF tab n)) := funext fun ds => funext fun S => s_days n ds S
theorem q_are_days (F : Str → FnM) : cBody (ccOf tab F f_are_days) (defScope f_are_days.st) (defBody f_are_days.st) = some (b_are_days F) := by kernel_rfl
theorem s_are_days (n : Nat) (ds : List D) (S : Sto) : semF tab (n + 1) "are_days" ds S = runL 4 7 (b_are_days (semF tab n)) ds S := sem_of (fd := f_are_days) (by kernel_rfl) (q_are_days _) ds S
theorem e_are_days (n : Nat) : semF tab (n + 1) "are_days" = runL 4 7 (b_are_days (semF tab n)) := funext fun ds => funext fun S => s_are_days n ds S
theorem q_law_bag (F : Str → FnM) : cBody (ccOf tab F f_law_bag) (defScope f_law_bag.st) (defBody f_law_bag.st) = some (b_law_bag F) := by kernel_rfl
theorem s_law_bag (n : Nat) (ds : List D) (S : Sto) : semF tab (n + 1) "_law_bag" ds S = runL 2 4 (b_law_bag (semF tab n)) ds S := sem_of (fd := f_law_bag) (by kernel_rfl) (q_law_bag _) ds S
theorem e_law_bag (n : Nat) : semF tab (n + 1) "_law_bag" = runL 2 4 (b_law_bag (semF tab n)) := funext fun ds => funext fun S => s_law_bag n ds S
theorem q_law_take (F : Str → FnM) : cBody (ccOf tab F f_law_take) (defScope f_law_take.st) (defBody f_law_take.st) = some (b_law_take F) := by kernel_rfl
theorem s_law_take (n : Nat) (ds : List D) (S : Sto) : semF tab (n + 1) "_law_take" ds S = runL 2 3 (b_law_take (semF tab n)) ds S := sem_of (fd := f_law_take) (by kernel_rfl) (q_law_take _) ds S
theorem e_law_take (n : Nat) : semF tab (n + 1) "_law_take" = runL 2 3 (b_law_take (semF tab n)) := funext fun ds => funext fun S => s_law_take n ds S
theorem q_law_of (F : Str → FnM) : cBody (ccOf tab F f_law_of) (defScope f_law_of.st) (defBody f_law_of.st) = some (b_law_of F) := by kernel_rfl
theorem s_law_of (n : Nat) (ds : List D) (S : Sto) : semF tab (n + 1) "_law_of" ds S = runL 2 2 (b_law_of (semF tab n)) ds S := sem_of (fd := f_law_of) (by kernel_rfl) (q_law_of _) ds S
theorem e_law_of (n : Nat) : semF tab (n + 1) "_law_of" = runL 2 2 (b_law_of (semF tab n)) := funext fun ds => funext fun S => s_law_of n ds S
theorem q_law_limits (F : Str → FnM) : cBody (ccOf tab F f_law_limits) (defScope f_law_limits.st) (defBody f_law_limits.st) = some (b_law_limits F) := by kernel_rfl
theorem s_law_limits (n : Nat) (ds : List D) (S : Sto) : semF tab (n + 1) "_law_limits" ds S = runL 1 1 (b_law_limits (semF tab n)) ds S := sem_of (fd := f_law_limits) (by kernel_rfl) (q_law_limits _) ds S
theorem e_law_limits (n : Nat) : semF tab (n + 1) "_law_limits" = runL 1 1 (b_law_limits (semF tab n)) := funext fun ds => funext fun S => s_law_limits n ds S
theorem q_law_comes (F : Str → FnM) : cBody (ccOf tab F f_law_comes) (defScope f_law_comes.st) (defBody f_law_comes.st) = some (b_law_comes F) := by kernel_rfl
theorem s_law_comes (n : Nat) (ds : List D) (S : Sto) : semF tab (n + 1) "_law_comes" ds S = runL 2 4 (b_law_comes (semF tab n)) ds S := sem_of (fd := f_law_comes) (by kernel_rfl) (q_law_comes _) ds S
theorem e_law_comes (n : Nat) : semF tab (n + 1) "_law_comes" = runL 2 4 (b_law_comes (semF tab n)) := funext fun ds => funext fun S => s_law_comes n ds S
theorem q_law_stays (F : Str → FnM) : cBody (ccOf tab F f_law_stays) (defScope f_law_stays.st) (defBody f_law_stays.st) = some (b_law_stays F) := by kernel_rfl
theorem s_law_stays (n : Nat) (ds : List D) (S : Sto) : semF tab (n + 1) "_law_stays" ds S = runL 3 6 (b_law_stays (semF tab n)) ds S := sem_of (fd := f_law_stays) (by kernel_rfl) (q_law_stays _) ds S
theorem e_law_stays (n : Nat) : semF tab (n + 1) "_law_stays" = runL 3 6 (b_law_stays (semF tab n)) := funext fun ds => funext fun S => s_law_stays n ds S
def b_law_all_days (F : Str → FnM) : StM :=
 (sSeq (sIf (asB (eBin eqV' (eNm 2) (eLst aNil)))
 (sSeq (sRet (eLst (aCons (eLst aNil) aNil)))
 sNil)
 sNil)
 (sSeq (sAsg (eLst aNil) (gNm 3))
 (sSeq (sAsg (eBin addV (eNm 1) (eBin ixV (eNm 2) (eC (.int 0)))) (gNm 4))
 (sSeq (sFor (srR1 (eBin addV (eBin minV (eBin ixV (eNm 0) (eC (.int 0))) (eNm 4)) (eC (.int 1)))) (gNm 5)
 (sSeq (sFor (srR2 (eBin maxV (eC (.int 0)) (eBin subV (eBin subV (eNm 4) (eNm 5)) (eBin ixV (eNm 0) (eC (.int 1))))) (eBin addV (eBin subV (eNm 4) (eNm 5)) (eC (.int 1)))) (gNm 6)
 (sSeq (sFor (srA (eCall (F "_law_all_days") (aCons (eNm 0) (aCons (eBin subV (eBin subV (eNm 4) (eNm 5)) (eNm 6)) (aCons (eSl (eNm 2) (ptI (eC (.int 1))) ptNo) aNil))))) (gNm 7)
 (sSeq (sExpr (eM1 .list mApp1 (eNm 3) (eBin addV (eLst (aCons (eTup (aCons (eNm 5) (aCons (eNm 6) aNil))) aNil)) (eNm 7))))
 sNil))
 sNil))
 sNil))
 (sSeq (sRet (eNm 3))
 sNil)))))
theorem q_law_all_days (F : Str → FnM) : cBody (ccOf tab F f_law_all_days) (defScope f_law_all_days.st) (defBody f_law_all_days.st) = some (b_law_all_days F) := by kernel_rfl
theorem s_law_all_days (n : Nat) (ds : List D) (S : Sto) : semF tab (n + 1) "_law_all_days" ds S = runL 3 8 (b_law_all_days (semF tab n)) ds S := sem_of (fd := f_law_all_days) (by kernel_rfl) (q_law_all_days _) ds S
theorem e_law_all_days (n : Nat) : semF tab (n + 1) "_law_all_days" = runL 3 8 (b_law_all_days (semF tab n)) := funext fun ds => funext fun S => s_law_all_days n ds S
def b_law_rank (F : Str → FnM) : StM :=
 (sSeq (sAsg (eLc [2, 3] (srA (eNm 0)) (gTp 2 (gsCons (gNm 2) (gsCons (gNm 3) gsNil))) tsYes (eTup (aCons (eBin subV (eC (.int 0)) (eNm 2)) (aCons (eNm 3) aNil)))) (gNm 1))
 (sSeq (sRet (eTup (aCons (eUn sumV (eLc [2, 3] (srA (eNm 0)) (gTp 2 (gsCons (gNm 2) (gsCons (gNm 3) gsNil))) tsYes (eNm 3))) (aCons (eNm 1) aNil))))
 sNil))
theorem q_law_rank (F : Str → FnM) : cBody (ccOf tab F f_law_rank) (defScope f_law_rank.st) (defBody f_law_rank.st) = some (b_law_rank F) := by kernel_rfl
theorem s_law_rank (n : Nat) (ds : List D) (S : Sto) : semF tab (n + 1) "_law_rank" ds S = runL 1 4 (b_law_rank (semF tab n)) ds S := sem_of (fd := f_law_rank) (by kernel_rfl) (q_law_rank _) ds S
theorem e_law_rank (n : Nat) : semF tab (n + 1) "_law_rank" = runL 1 4 (b_law_rank (semF tab n)) := funext fun ds => funext fun S => s_law_rank n ds S
def b_law (F : Str → FnM) : StM :=
 (sSeq (sFor (srR1 (eBin addV (eBin minV (eUn lenV (eNm 0)) (eC (.int 6))) (eC (.int 2)))) (gNm 1)
 (sSeq (sAsg (eCall (F "_law_bag") (aCons (eNm 0) (aCons (eNm 1) aNil))) (gNm 2))
 (sSeq (sPar2 3 4 (aCons (eCall (F "_law_limits") (aCons (eNm 2) aNil)) (aCons (eCall (F "_law_comes") (aCons (eNm 2) (aCons (eC (.int 30)) aNil))) aNil)))
 (sSeq (sAsg (eCall (F "_law_of") (aCons (eNm 2) (aCons (eLst (aCons (eC (.int 0)) (aCons (eC (.int 4)) (aCons (eC (.int 100)) (aCons (eBin ixV (eNm 3) (eC (.int 1))) aNil))))) aNil))) (gNm 5))
 (sSeq (sAsg (eCall (F "days") (aCons (eNm 3) (aCons (eNm 5) (aCons (eNm 4) aNil)))) (gNm 6))
 (sSeq (sIf (asB (eBin isNotV' (eCall (F "are_days") (aCons (eNm 3) (aCons (eNm 5) (aCons (eNm 4) (aCons (eNm 6) aNil))))) (eC (.bl true))))
 (sSeq (sRet (eC (.bl false)))
 sNil)
 sNil)
 (sSeq (sAsg (eNm 5) (gNm 7))
 (sSeq (sFor (srZ3 (eNm 4) (eNm 6) (eCall (F "_law_stays") (aCons (eNm 5) (aCons (eNm 4) (aCons (eNm 6) aNil))))) (gTp 3 (gsCons (gNm 8) (gsCons (gTp 2 (gsCons (gNm 9) (gsCons (gNm 10) gsNil))) (gsCons (gNm 11) gsNil))))
 (sSeq (sIf (tsOr (asB (eBin neV' (eNm 9) (eBin minV (eBin ixV (eNm 3) (eC (.int 0))) (eBin addV (eNm 7) (eNm 8))))) (asB (eBin neV' (eNm 10) (eBin maxV (eC (.int 0)) (eBin subV (eBin subV (eBin addV (eNm 7) (eNm 8)) (eNm 9)) (eBin ixV (eNm 3) (eC (.int 1))))))))
 (sSeq (sRet (eC (.bl false)))
 sNil)
 sNil)
 (sSeq (sAsg (eNm 11) (gNm 7))
 sNil)))
 (sSeq (sIf (asB (eBin neV' (eBin addV (eNm 5) (eUn sumV (eNm 4))) (eBin addV (eNm 7) (eUn sumV (eLc [9, 10] (srA (eNm 6)) (gTp 2 (gsCons (gNm 9) (gsCons (gNm 10) gsNil))) tsYes (eBin addV (eNm 9) (eNm 10)))))))
 (sSeq (sRet (eC (.bl false)))
 sNil)
 sNil)
 (sSeq (sAsg (eTup (aCons (eCall (F "_law_take") (aCons (eNm 2) (aCons (eC (.int 3)) aNil))) (aCons (eCall (F "_law_take") (aCons (eNm 2) (aCons (eC (.int 4)) aNil))) aNil))) (gNm 12))
 (sSeq (sAsg (eLc [14] (srR1 (eCall (F "_law_take") (aCons (eNm 2) (aCons (eC (.int 4)) aNil)))) (gNm 14) tsYes (eCall (F "_law_take") (aCons (eNm 2) (aCons (eC (.int 5)) aNil)))) (gNm 13))
 (sSeq (sAsg (eCall (F "_law_take") (aCons (eNm 2) (aCons (eC (.int 3)) aNil))) (gNm 15))
 (sSeq (sAsg (eUn min1V (eLc [17] (srA (eCall (F "_law_all_days") (aCons (eNm 12) (aCons (eNm 15) (aCons (eNm 13) aNil))))) (gNm 17) tsYes (eCall (F "_law_rank") (aCons (eNm 17) aNil)))) (gNm 16))
 (sSeq (sIf (asB (eBin neV' (eCall (F "_law_rank") (aCons (eCall (F "days") (aCons (eNm 12) (aCons (eNm 15) (aCons (eNm 13) aNil)))) aNil)) (eNm 16)))
 (sSeq (sRet (eC (.bl false)))
 sNil)
 sNil)
 sNil))))))))))))))
 (sSeq (sAsg (eBin powV (eC (.int 10)) (eC (.int 9))) (gNm 18))
 (sSeq (sIf (asB (eBin neV' (eCall (F "days") (aCons (eTup (aCons (eNm 18) (aCons (eNm 18) aNil))) (aCons (eNm 18) (aCons (eLst (aCons (eNm 18) (aCons (eC (.int 0)) aNil))) aNil)))) (eLst (aCons (eTup (aCons (eNm 18) (aCons (eC (.int 0)) aNil))) (aCons (eTup (aCons (eNm 18) (aCons (eC (.int 0)) aNil))) aNil)))))
 (sSeq (sRet (eC (.bl false)))
 sNil)
 sNil)
 (sSeq (sRet (eAnd (eBin eqV' (eCall (F "days") (aCons (eTup (aCons (eC (.int 5)) (aCons (eC (.int 5)) aNil))) (aCons (eC (.int 20)) (aCons (eLst aNil) aNil)))) (eLst aNil)) (eBin eqV' (eCall (F "days") (aCons (eTup (aCons (eBin subV (eNm 18) (eC (.int 1))) (aCons (eC (.int 0)) aNil))) (aCons (eNm 18) (aCons (eLst (aCons (eNm 18) aNil)) aNil)))) (eLst (aCons (eTup (aCons (eBin subV (eNm 18) (eC (.int 1))) (aCons (eBin addV (eNm 18) (eC (.int 1))) aNil))) aNil)))))
 sNil))))
theorem q_law (F : Str → FnM) : cBody (ccOf tab F f_law) (defScope f_law.st) (defBody f_law.st) = some (b_law F) := by kernel_rfl
theorem s_law (n : Nat) (ds : List D) (S : Sto) : semF tab (n + 1) "law" ds S = runL 1 19 (b_law (semF tab n)) ds S := sem_of (fd := f_law) (by kernel_rfl) (q_law _) ds S
theorem e_law (n : Nat) : semF tab (n + 1) "law" = runL 1 19 (b_law (semF tab n)) := funext fun ds => funext fun S => s_law n ds S
end Bz.K12

set_option Elab.async false
set_option linter.all false
set_option maxRecDepth 100000
set_option maxHeartbeats 2000000
/-! k12, the plain law. -/
namespace Bz.K12
open PySem PySem.Spec PyProof.Rows L2
/-- all days that there are -/
def allD (b k : Int) : Int → List Int → List (List (Int × Int))
  | _, [] => [[]]
  | t, c :: cs => (List.range (min b (t + c) + 1).toNat).flatMap fun (i : Nat) => (List.range (t + c - (i : Int) + 1 - max 0 (t + c - (i : Int) - k)).toNat).flatMap fun (j : Nat) =>
      (allD b k (t + c - (i : Int) - (max 0 (t + c - (i : Int) - k) + (j : Int))) cs).map fun r => ((i : Int), max 0 (t + c - (i : Int) - k) + (j : Int)) :: r
theorem flat_succ {α : Type} (f : Nat → List α) (i : Nat) : (List.range (i + 1)).flatMap f = (List.range i).flatMap f ++ f i := by
  rw [List.range_succ, List.flatMap_append]
  simp
theorem flat_le {α : Type} (f : Nat → List α) {i n : Nat} (h : i ≤ n) : ((List.range i).flatMap f).length ≤ ((List.range n).flatMap f).length := by
  induction n with
  | zero => rw [Nat.le_zero.mp h]; exact Nat.le_refl _
  | succ n ih =>
    rcases Nat.lt_or_ge i (n + 1) with z | z
    · rw [flat_succ, List.length_append]
      have := ih (by omega)
      omega
    · rw [show i = n + 1 by omega]
      exact Nat.le_refl _
theorem flat_bound {α : Type} (f : Nat → List α) {M : Nat} : ∀ n, (∀ i, i < n → (f i).length ≤ M) → ((List.range n).flatMap f).length ≤ n * M
  | 0, _ => by simp
  | n + 1, h => by
    rw [flat_succ, List.length_append, Nat.add_mul, Nat.one_mul]
    exact Nat.add_le_add (flat_bound f n fun i hi => h i (by omega)) (h n (by omega))
theorem allD_len {b k : Int} (hb : b ≤ 2) (hk0 : 0 ≤ k) (hk : k ≤ 3) : ∀ (t : Int) (cs : List Int), (allD b k t cs).length ≤ 12 ^ cs.length
  | _, [] => Nat.le_refl _
  | t, c :: cs => by
    unfold allD
    have h := flat_bound (fun i : Nat => (List.range (t + c - (i : Int) + 1 - max 0 (t + c - (i : Int) - k)).toNat).flatMap fun j : Nat =>
      (allD b k (t + c - (i : Int) - (max 0 (t + c - (i : Int) - k) + (j : Int))) cs).map fun r => ((i : Int), max 0 (t + c - (i : Int) - k) + (j : Int)) :: r) (M := 4 * 12 ^ cs.length) (min b (t + c) + 1).toNat fun i _ => by
        refine Nat.le_trans (flat_bound _ (M := 12 ^ cs.length) _ fun j _ => by rw [List.length_map]; exact allD_len hb hk0 hk _ cs) ?_
        exact Nat.mul_le_mul_right _ (by omega)
    refine Nat.le_trans h ?_
    rw [List.length_cons, Nat.pow_succ]
    have : (min b (t + c) + 1).toNat ≤ 3 := by omega
    calc (min b (t + c) + 1).toNat * (4 * 12 ^ cs.length) ≤ 3 * (4 * 12 ^ cs.length) := Nat.mul_le_mul_right _ this
      _ = 12 ^ cs.length * 12 := by omega
/-- days that may be -/
def Day (b k : Int) : Int → List Int → List (Int × Int) → Prop
  | _, [], r => r = []
  | t, c :: cs, r => ∃ x y q, r = (x, y) :: q ∧ 0 ≤ x ∧ x ≤ b ∧ x ≤ t + c ∧ 0 ≤ y ∧ t + c - x - k ≤ y ∧ y ≤ t + c - x ∧ Day b k (t + c - x - y) cs q
theorem allD_day {b k : Int} : ∀ (t : Int) (cs : List Int) (r : List (Int × Int)), r ∈ allD b k t cs → Day b k t cs r
  | _, [], r, h => by unfold allD at h; exact List.mem_singleton.mp h
  | t, c :: cs, r, h => by
    unfold allD at h
    obtain ⟨i, hi, h⟩ := List.mem_flatMap.mp h
    obtain ⟨j, hj, h⟩ := List.mem_flatMap.mp h
    obtain ⟨q, hq, rfl⟩ := List.mem_map.mp h
    rw [List.mem_range] at hi hj
    refine ⟨_, _, q, rfl, by omega, by omega, by omega, by omega, by omega, by omega, allD_day _ cs q hq⟩
theorem day_allD {b k : Int} : ∀ (t : Int) (cs : List Int) (r : List (Int × Int)), Day b k t cs r → r ∈ allD b k t cs
  | _, [], r, h => by rw [show r = [] from h]; simp [allD]
  | t, c :: cs, r, h => by
    obtain ⟨x, y, q, rfl, h1, h2, h3, h4, h5, h6, h7⟩ := h
    unfold allD
    refine List.mem_flatMap.mpr ⟨x.toNat, List.mem_range.mpr (by omega), ?_⟩
    rw [show ((x.toNat : Nat) : Int) = x by omega]
    refine List.mem_flatMap.mpr ⟨(y - max 0 (t + c - x - k)).toNat, List.mem_range.mpr (by omega), ?_⟩
    rw [show max 0 (t + c - x - k) + (((y - max 0 (t + c - x - k)).toNat : Nat) : Int) = y by omega]
    exact List.mem_map.mpr ⟨q, day_allD _ cs q h7, rfl⟩
theorem days_day {b k : Int} (hb : 0 ≤ b) (hk : 0 ≤ k) : ∀ (t : Int) (cs : List Int), 0 ≤ t → (∀ c ∈ cs, (0 : Int) ≤ c) → Day b k t cs (daysF b k t cs)
  | _, [], _, _ => rfl
  | t, c :: cs, ht, hc => by
    have h0 := hc c List.mem_cons_self
    refine ⟨_, _, _, rfl, by omega, by omega, by omega, by omega, by omega, by omega, ?_⟩
    exact days_day hb hk _ cs (by omega) fun c' h => hc c' (List.mem_cons_of_mem _ h)
/-- of what is sent, of what is burnt: the order of ranks -/
def sentS (r : List (Int × Int)) : Int := (r.map Prod.snd).sum
def lexR : List (Int × Int) → List (Int × Int) → Bool
  | [], [] => false
  | [], _ :: _ => true
  | _ :: _, [] => false
  | p :: ps, q :: qs => if p = q then lexR ps qs else decide (q.1 < p.1 ∨ (p.1 = q.1 ∧ p.2 < q.2))
theorem sent_least {b k : Int} (hk : 0 ≤ k) : ∀ (cs : List Int) (A s A' s' : Int) (r : List (Int × Int)), A ≤ A' → A + s ≤ A' + s' → Day b k s' cs r → A + sentS (daysF b k s cs) ≤ A' + sentS r
  | [], A, s, A', s', r, h1, _, h => by
    rw [show r = [] from h]
    exact Int.add_le_add h1 (Int.le_refl _)
  | c :: cs, A, s, A', s', r, h1, h2, h => by
    obtain ⟨x, y, q, rfl, g1, g2, g3, g4, g5, g6, g7⟩ := h
    have ih := sent_least hk cs (A + max 0 (s + c - min b (s + c) - k)) (s + c - min b (s + c) - max 0 (s + c - min b (s + c) - k)) (A' + y) (s' + c - x - y) q (by omega) (by omega) g7
    have e1 : sentS (daysF b k s (c :: cs)) = max 0 (s + c - min b (s + c) - k) + sentS (daysF b k (s + c - min b (s + c) - max 0 (s + c - min b (s + c) - k)) cs) := rfl
    have e2 : sentS ((x, y) :: q) = y + sentS q := rfl
    rw [e1, e2]
    omega
theorem lex_first {b k : Int} (hk : 0 ≤ k) : ∀ (cs : List Int) (t : Int) (r : List (Int × Int)), Day b k t cs r → r = daysF b k t cs ∨ (lexR (daysF b k t cs) r = true ∧ lexR r (daysF b k t cs) = false)
  | [], t, r, h => .inl h
  | c :: cs, t, r, h => by
    obtain ⟨x, y, q, rfl, g1, g2, g3, g4, g5, g6, g7⟩ := h
    show ((x, y) :: q) = (min b (t + c), max 0 (t + c - min b (t + c) - k)) :: daysF b k (t + c - min b (t + c) - max 0 (t + c - min b (t + c) - k)) cs ∨ (lexR ((min b (t + c), max 0 (t + c - min b (t + c) - k)) :: daysF b k (t + c - min b (t + c) - max 0 (t + c - min b (t + c) - k)) cs) ((x, y) :: q) = true ∧ lexR ((x, y) :: q) ((min b (t + c), max 0 (t + c - min b (t + c) - k)) :: daysF b k (t + c - min b (t + c) - max 0 (t + c - min b (t + c) - k)) cs) = false)
    by_cases e : ((x, y) : Int × Int) = (min b (t + c), max 0 (t + c - min b (t + c) - k))
    · have e1 := congrArg Prod.fst e
      have e2 := congrArg Prod.snd e
      have e1 : x = min b (t + c) := e1
      have e2 : y = max 0 (t + c - min b (t + c) - k) := e2
      rw [← e2, ← e1] 
      rcases lex_first hk cs (t + c - x - y) q g7 with h | ⟨h1, h2⟩
      · exact .inl (by rw [← h])
      · refine .inr ⟨?_, ?_⟩
        · show (if _ then _ else _) = _
          rw [if_pos rfl]; exact h1
        · show (if _ then _ else _) = _
          rw [if_pos rfl]; exact h2
    · refine .inr ⟨?_, ?_⟩
      · show (if _ then _ else _) = _
        rw [if_neg (fun z => e z.symm)]
        refine decide_eq_true ?_
        by_cases e1 : x = min b (t + c)
        · have : y ≠ max 0 (t + c - min b (t + c) - k) := fun e2 => e (by rw [← e2, ← e1])
          exact .inr ⟨e1.symm, by show max 0 (t + c - min b (t + c) - k) < y; omega⟩
        · exact .inl (by show x < min b (t + c); omega)
      · show (if _ then _ else _) = _
        rw [if_neg e]
        refine decide_eq_false fun z => ?_
        rcases z with z | ⟨z1, z2⟩
        · have z : min b (t + c) < x := z
          omega
        · have z1 : x = min b (t + c) := z1
          have z2 : y < max 0 (t + c - min b (t + c) - k) := z2
          omega
end Bz.K12

set_option Elab.async false
set_option linter.all false
set_option maxRecDepth 100000
set_option maxHeartbeats 4000000
set_option pp.deepTerms false
set_option pp.deepTerms.threshold 3
/-! k12: all days. -/
namespace Bz.K12
open PySem PySem.Spec PyProof.Rows L2
local macro_rules | `(tactic| walk_at "w") => `(tactic| repeat (first
  | with_reducible refine w_sSeq ?_ | with_reducible refine w_sIf ?_ | with_reducible refine w_sAsg ?_ | with_reducible refine w_sRet ?_ | with_reducible refine w_sNil ?_ | with_reducible refine w_sExpr ?_ | with_reducible refine w_sFor ?_
  | with_reducible refine w_asB ?_ | with_reducible refine w_tru ?_ | with_reducible refine w_tsAnd ?_ | with_reducible refine w_tsOr ?_ | with_reducible refine w_tsNot ?_ | with_reducible refine w_tsYes ?_ | with_reducible refine w_and ?_ | with_reducible refine w_or ?_ | with_reducible refine w_not ?_ | with_reducible refine w_eIf ?_
  | with_reducible refine w_bin ?_ | with_reducible refine w_un ?_ | with_reducible refine w_chain ?_ | with_reducible refine w_nm rfl ?_ | with_reducible refine w_c ?_ | with_reducible refine w_stlV ?_ | with_reducible refine w_stlN ?_
  | with_reducible refine w_aNil ?_ | with_reducible refine w_aCons ?_ | with_reducible refine w_eTup ?_ | with_reducible refine w_eLst ?_ | with_reducible refine w_call ?_ | with_reducible refine w_eSl ?_ | with_reducible refine w_ptNo ?_ | with_reducible refine w_ptI ?_ | with_reducible refine w_m1 ?_ | with_reducible refine w_m2 ?_ | with_reducible refine w_eLc ?_
  | with_reducible refine dl_q (Nat.le_of_ble_eq_true rfl) ?_ | with_reducible refine int_q ?_ | with_reducible refine as_q ?_
  | with_reducible refine ty_q (ty_loc (by assumption)) ?_
  | with_reducible refine sq_nx ?_ | with_reducible refine sq_rt ?_ | with_reducible refine sq_bk ?_ | with_reducible refine sq_ct ?_ | with_reducible refine fq_rt ?_ | with_reducible refine fq_nx ?_ | with_reducible refine tq_nx ?_ | with_reducible refine tq_ct ?_ | with_reducible refine tq_bk ?_ | with_reducible refine tq_rt ?_
  | with_reducible refine w_srA ?_ | with_reducible refine w_srR1 ?_ | with_reducible refine w_srR2 ?_ | with_reducible refine w_srZ ?_
  | with_reducible refine src_q (src_loc (by assumption)) ?_ | with_reducible refine src_q rfl ?_
  | with_reducible refine w_addI ?_ | with_reducible refine w_subI ?_ | with_reducible refine w_mulI (by omega) ?_ | with_reducible refine w_divI (by omega) (by omega) ?_ | with_reducible refine w_modI (by first | omega | decide +kernel) ?_ | with_reducible refine w_powI rfl ?_ | with_reducible refine w_neg ?_ | with_reducible refine w_iaddI ?_
  | with_reducible refine w_max ?_ | with_reducible refine w_min ?_ | with_reducible refine w_abs ?_
  | with_reducible refine w_gtI ?_ | with_reducible refine w_ltI ?_ | with_reducible refine w_leI ?_ | with_reducible refine w_geI ?_ | with_reducible refine w_eqI ?_ | with_reducible refine w_neI ?_ | with_reducible refine w_eqS ?_ | with_reducible refine w_neS ?_
  | with_reducible refine w_ixT rfl ?_ | with_reducible refine w_ixR rfl ?_ | with_reducible refine w_ixL (by assumption) rfl ?_
  | with_reducible refine w_len (seq_loc (by assumption)) ?_ | with_reducible refine w_len rfl ?_
  | with_reducible refine w_gNm (Nat.le_of_ble_eq_true rfl) ?_ | with_reducible refine w_gSb ?_ | with_reducible refine w_gTp rfl ?_ | with_reducible refine w_gsCons ?_ | with_reducible refine w_gsNil ?_
  | with_reducible refine w_sPar2 ?_ | with_reducible refine w_sPar3 ?_ | with_reducible refine w_sAug rfl ?_
  | with_reducible refine br_n ?_ | with_reducible refine br_t ?_ | with_reducible refine br_f ?_))
/-- a list of lists of days -/
structure Rws (S : Sto) (f : Nat) (ls : List Nat) (rows : List (List (Int × Int))) : Prop where
  at_ : S[f]? = some (.lst (ls.map D.loc))
  len : ls.length = rows.length
  row : ∀ (i l : Nat) (r : List (Int × Int)), ls[i]? = some l → rows[i]? = some r → S[l]? = some (.lst (r.map pairD))
  ne : ∀ l ∈ ls, l ≠ f
theorem Rws.fr {S S' : Sto} {g f : Nat} {ls : List Nat} {rows : List (List (Int × Int))} (r : Rws S f ls rows) (h : Fr g S S') (h1 : f ≠ g) (h2 : ∀ l ∈ ls, l ≠ g) : Rws S' f ls rows :=
  ⟨h.at r.at_ h1, r.len, fun i l q a b => h.at (r.row i l q a b) (h2 l (List.mem_of_getElem? a)), r.ne⟩
theorem Rws.add {S : Sto} {f : Nat} {ls : List Nat} {rows : List (List (Int × Int))} {q : List (Int × Int)} (r : Rws S f ls rows) :
    Rws ((S ++ [Ob.lst (q.map pairD)]).set f (.lst ((ls ++ [S.length]).map D.loc))) f (ls ++ [S.length]) (rows ++ [q]) := by
  have hf := lt_of r.at_
  have hne : ∀ l ∈ ls ++ [S.length], l ≠ f := fun l hl => by
    rcases List.mem_append.mp hl with h | h
    · exact r.ne l h
    · rw [List.mem_singleton.mp h]; omega
  refine ⟨List.getElem?_set_self (by rw [List.length_append]; omega), by rw [List.length_append, List.length_append, r.len]; rfl, fun i l p a b => ?_, hne⟩
  rw [List.getElem?_set_ne (Ne.symm (hne l (List.mem_of_getElem? a)))]
  rcases Nat.lt_or_ge i ls.length with z | z
  · rw [List.getElem?_append_left z] at a
    rw [List.getElem?_append_left (by rw [← r.len]; exact z)] at b
    exact at_left (r.row i l p a b)
  · rw [List.getElem?_append_right z] at a
    rw [List.getElem?_append_right (by rw [← r.len]; exact z), ← r.len] at b
    have hi : i - ls.length = 0 := by
      have := (List.getElem?_eq_some_iff.mp a).1
      simp at this
      omega
    rw [hi] at a b
    cases a; cases b
    exact at_new
theorem day_len {b k : Int} : ∀ (t : Int) (cs : List Int) (r : List (Int × Int)), Day b k t cs r → r.length = cs.length
  | _, [], r, h => by rw [show r = [] from h]; rfl
  | t, c :: cs, r, h => by
    obtain ⟨x, y, q, rfl, _, _, _, _, _, _, h⟩ := h
    rw [List.length_cons, List.length_cons, day_len _ cs q h]
def AllS (n : Nat) (g : FnM) : Prop := ∀ (b k t : Int) (m : Nat) (cs : List Int) (S : Sto) (Q : D → Sto → Prop), 0 ≤ b → b ≤ 2 → 0 ≤ k → k ≤ 3 → 0 ≤ t → cs.length = n → n ≤ 3 → (∀ c ∈ cs, (0 : Int) ≤ c) → S[m]? = some (.lst (cs.map D.int)) →
  t ≤ 1000 → (∀ c ∈ cs, c ≤ 1000) →
  (∀ (m' : Nat) (ls : List Nat) (S' : Sto), Rws S' m' ls (allD b k t cs) → S.length ≤ m' → (∀ l ∈ ls, S.length ≤ l) → S.length ≤ S'.length → (∀ (p : Nat) (o : Ob), S[p]? = some o → S'[p]? = some o) → Q (.loc m') S') → W (g [boundsD b k, .int t, .loc m] S) Q
theorem all_ok {F : Str → FnM} {n : Nat} (IH : ∀ n', n = n' + 1 → AllS n' (F "_law_all_days")) : AllS n (runL 3 8 (b_law_all_days F)) := by
  intro b k t m cs S Q b0 b1 k0 k1 t0 hn hn3 hcs hm ht9 hcs9 q
  refine w_runL rfl ?_
  unfold b_law_all_days
  walk_at "w"
  refine w_eqL (α := Int) (lsd_loc hm) lsd_nil ?_
  walk_at "w"
  refine br_d (fun hk => ?_) fun hk => ?_
  · subst hk
    walk_at "w"
    refine q _ [S.length] _ ⟨at_new, rfl, fun i l r a b => ?_, fun l hl => by rw [List.mem_singleton.mp hl, List.length_append]; simp⟩ (by simp) (fun l hl => by rw [List.mem_singleton.mp hl]; exact Nat.le_refl _) (by simp) fun p o h => at_left (at_left h)
    have hi : i = 0 := by
      have := (List.getElem?_eq_some_iff.mp a).1
      simp at this
      omega
    subst hi
    cases a; cases b
    exact at_left at_new
  cases cs with
  | nil => exact absurd rfl hk
  | cons c cs =>
    cases n with
    | zero => cases hn
    | succ n =>
      have hn' : cs.length = n := Nat.succ.inj hn
      have hc0 := hcs c List.mem_cons_self
      have hc9 := hcs9 c List.mem_cons_self
      walk_at "w"
      refine w_ixL (d := .int c) (at_left hm) (atI_nat (j := 0) rfl) ?_
      walk_at "w"
      refine ⟨_, rfl, by omega, ?_⟩
      generalize hF : (fun i : Nat => (List.range (t + c - (i : Int) + 1 - max 0 (t + c - (i : Int) - k)).toNat).flatMap fun j : Nat => (allD b k (t + c - (i : Int) - (max 0 (t + c - (i : Int) - k) + (j : Int))) cs).map fun r => ((i : Int), max 0 (t + c - (i : Int) - k) + (j : Int)) :: r) = Fi
      have hall : allD b k t (c :: cs) = (List.range (min b (t + c) + 1).toNat).flatMap Fi := by rw [← hF]; rfl
      have hbig : ((List.range (min b (t + c) + 1).toNat).flatMap Fi).length < big := by
        rw [← hall]
        refine Nat.lt_of_le_of_lt (allD_len (by omega) k0 (by omega) t (c :: cs)) (Nat.lt_of_le_of_lt (Nat.pow_le_pow_right (by decide) (show (c :: cs).length ≤ 3 by rw [List.length_cons]; omega)) (by decide))
      rw [hall] at q
      have hS0 : (S ++ [Ob.lst []])[S.length]? = some (.lst []) := at_new
      have hext0 : ∀ (p : Nat) (o : Ob), S[p]? = some o → (S ++ [Ob.lst []])[p]? = some o ∧ p ≠ S.length := fun p o h => ⟨at_left h, by have := lt_of h; omega⟩
      have hS0l : (S ++ [Ob.lst []]).length = S.length + 1 := by simp
      generalize (S ++ [Ob.lst []] : Sto) = S0 at hS0 hext0 hS0l ⊢
      have hm0 := (hext0 m _ hm)
      refine w_forGo (fun i env S' => ∃ e5 e6 e7 ls, env = [some (boundsD b k), some (.int t), some (.loc m), some (.loc S.length), some (.int (t + c)), e5, e6, e7] ∧ Rws S' S.length ls ((List.range i).flatMap Fi) ∧ Fr S.length S0 S' ∧ ∀ l ∈ ls, S.length < l) ⟨_, _, _, [], rfl, ⟨hS0, rfl, fun i l r a _ => by simp at a, fun l hl => nomatch hl⟩, .refl, fun l hl => nomatch hl⟩ ?_ ?_
      · rintro i x env S1 hx ⟨e5, e6, e7, ls, rfl, r1, f1, hls⟩
        obtain ⟨hi, rfl⟩ := rngI_get hx
        refine ⟨gok_nil, ?_⟩
        rw [Int.zero_add]
        have hFi : Fi i = (List.range (t + c - (i : Int) + 1 - max 0 (t + c - (i : Int) - k)).toNat).flatMap fun j : Nat => (allD b k (t + c - (i : Int) - (max 0 (t + c - (i : Int) - k) + (j : Int))) cs).map fun r => ((i : Int), max 0 (t + c - (i : Int) - k) + (j : Int)) :: r := by rw [← hF]
        generalize hG : (fun j : Nat => (allD b k (t + c - (i : Int) - (max 0 (t + c - (i : Int) - k) + (j : Int))) cs).map fun r => ((i : Int), max 0 (t + c - (i : Int) - k) + (j : Int)) :: r) = Gj at hFi
        walk_at "w"
        refine ⟨_, _, rfl, rfl, by omega, ?_⟩
        refine w_forGo (fun j env S' => ∃ e6 e7 ls, env = [some (boundsD b k), some (.int t), some (.loc m), some (.loc S.length), some (.int (t + c)), some (.int i), e6, e7] ∧ Rws S' S.length ls ((List.range i).flatMap Fi ++ (List.range j).flatMap Gj) ∧ Fr S.length S0 S' ∧ ∀ l ∈ ls, S.length < l) ⟨_, _, ls, rfl, by simpa using r1, f1, hls⟩ ?_ ?_
        · rintro j x env S2 hx ⟨e6, e7, ls, rfl, r2, f2, hls⟩
          obtain ⟨hj, rfl⟩ := rngI_get hx
          refine ⟨gok_nil, ?_⟩
          generalize hy : max 0 (t + c - (i : Int) - k) + (j : Int) = y
          have hGj : Gj j = (allD b k (t + c - (i : Int) - y) cs).map fun r => ((i : Int), y) :: r := by rw [← hG, ← hy]
          walk_at "w"
          have hm2 : S2[m]? = some (.lst ((c :: cs).map D.int)) := f2.at hm0.1 hm0.2
          refine w_slL (lrd_loc hm2) ?_
          rw [show (1 : Int) = ((1 : Nat) : Int) from rfl, cutD_from]
          walk_at "w"
          refine IH n rfl b k (t + c - (i : Int) - y) _ cs _ _ b0 b1 k0 k1 (by omega) hn' (by omega) (fun c' h => hcs c' (List.mem_cons_of_mem _ h)) at_new (by omega) (fun c' h => hcs9 c' (List.mem_cons_of_mem _ h)) fun m' ls' S3 r3 hm3 hl3 hs3 he3 => ?_
          have fl2 := lt_of r2.at_
          have f23 : Fr S.length S2 S3 := ⟨by rw [List.length_append] at hs3; simp at hs3; omega, fun p o _ h => he3 p o (at_left h)⟩
          have r2' : Rws S3 S.length ls ((List.range i).flatMap Fi ++ (List.range j).flatMap Gj) := ⟨he3 _ _ (at_left r2.at_), r2.len, fun i l r a b => he3 _ _ (at_left (r2.row i l r a b)), r2.ne⟩
          rw [List.length_append] at hm3 hl3
          have hm3n : m' ≠ S.length := by simp at hm3; omega
          have hl3n : ∀ l ∈ ls', l ≠ S.length := fun l h => by have := hl3 l h; simp at this; omega
          walk_at "w"
          refine src_q (src_loc r3.at_) ?_
          refine w_forGo (fun l env S' => ∃ e7 ls, env = [some (boundsD b k), some (.int t), some (.loc m), some (.loc S.length), some (.int (t + c)), some (.int i), some (.int y), e7] ∧ Rws S' S.length ls ((List.range i).flatMap Fi ++ (List.range j).flatMap Gj ++ ((allD b k (t + c - (i : Int) - y) cs).take l).map fun r => ((i : Int), y) :: r) ∧ Fr S.length S0 S' ∧ (∀ l ∈ ls, S.length < l) ∧ Rws S' m' ls' (allD b k (t + c - (i : Int) - y) cs)) ⟨_, ls, rfl, by simpa using r2', f2.trans f23, hls, r3⟩ ?_ ?_
          · rintro l x env S4 hx ⟨e7, ls, rfl, r4, f4, hls, r5⟩
            obtain ⟨lo, hlo, rfl⟩ := map_get hx
            obtain ⟨r, hr⟩ : ∃ r, (allD b k (t + c - (i : Int) - y) cs)[l]? = some r := ⟨_, List.getElem?_eq_getElem (by rw [← r5.len]; exact (List.getElem?_eq_some_iff.mp hlo).1)⟩
            have hrow := r5.row l lo r hlo hr
            refine ⟨gok_cons r5.at_ gok_nil, ?_⟩
            have h4 := r4.at_
            have hrl : r.length = cs.length := day_len _ _ _ (allD_day _ _ _ (List.mem_of_getElem? hr))
            walk_at "w"
            refine w_catL rfl (lst_loc hrow) (by rw [List.length_map, hrl]; simp only [List.length_cons, List.length_nil]; unfold big; omega) ?_
            walk_at "w"
            have e1 : [D.tup [.int i, .int y]] ++ r.map pairD = ((((i : Int), y) :: r) : List (Int × Int)).map pairD := rfl
            rw [e1]
            have hcount : ls.length < big := by
              rw [r4.len]
              refine Nat.lt_of_le_of_lt ?_ hbig
              refine Nat.le_trans (?_ : _ ≤ ((List.range (i + 1)).flatMap Fi).length) (flat_le Fi (by omega))
              rw [flat_succ, List.length_append, List.length_append, List.length_append, Nat.add_assoc]
              refine Nat.add_le_add_left ?_ _
              rw [hFi]
              refine Nat.le_trans (?_ : _ ≤ ((List.range (j + 1)).flatMap Gj).length) (flat_le Gj (by omega))
              rw [flat_succ, List.length_append, hGj, List.length_map, List.length_map, List.length_take]
              exact Nat.add_le_add_left (Nat.min_le_right _ _) _
            refine w_append (at_left h4) (by rw [List.length_map]; exact hcount) ?_
            walk_at "w"
            have e2 : ls.map D.loc ++ [.loc S4.length] = (ls ++ [S4.length]).map D.loc := by simp
            rw [e2]
            have fl4 := lt_of h4
            have fnew : Fr S.length S4 ((S4 ++ [Ob.lst (((((i : Int), y) :: r) : List (Int × Int)).map pairD)]).set S.length (.lst ((ls ++ [S4.length]).map D.loc))) := .trans .push .set
            refine ⟨_, ls ++ [S4.length], rfl, ?_, f4.trans fnew, fun z hz => ?_, r5.fr fnew hm3n hl3n⟩
            · have e3 : ((allD b k (t + c - (i : Int) - y) cs).take (l + 1)).map (fun r => ((i : Int), y) :: r) = ((allD b k (t + c - (i : Int) - y) cs).take l).map (fun r => ((i : Int), y) :: r) ++ [((i : Int), y) :: r] := by rw [take_succ hr, List.map_append]; rfl
              rw [e3, ← List.append_assoc]
              exact r4.add
            · rcases List.mem_append.mp hz with hz | hz
              · exact hls z hz
              · rw [List.mem_singleton.mp hz]; exact fl4
          · rintro env S4 ⟨e7, ls, rfl, r4, f4, hls, r5⟩
            refine ⟨gok_cons r5.at_ gok_nil, ?_⟩
            walk_at "w"
            refine ⟨_, _, ls, rfl, ?_, f4, hls⟩
            rw [List.length_map, r5.len, List.take_length, ← hGj] at r4
            rw [flat_succ, ← List.append_assoc]
            exact r4
        · rintro env S2 ⟨e6, e7, ls, rfl, r2, f2, hls⟩
          refine ⟨gok_nil, ?_⟩
          walk_at "w"
          refine ⟨_, _, _, ls, rfl, ?_, f2, hls⟩
          rw [flat_succ, hFi]
          have : (rngI (max 0 (t + c - (i : Int) - k)) (t + c - (i : Int) + 1 - max 0 (t + c - (i : Int) - k)).toNat).length = (t + c - (i : Int) + 1 - max 0 (t + c - (i : Int) - k)).toNat := by simp [rngI]
          rw [this] at r2
          exact r2
      · rintro env S1 ⟨e5, e6, e7, ls, rfl, r1, f1, hls⟩
        refine ⟨gok_nil, ?_⟩
        walk_at "w"
        have : (rngI 0 (min b (t + c) + 1).toNat).length = (min b (t + c) + 1).toNat := by simp [rngI]
        rw [this] at r1
        refine q _ ls _ r1 (Nat.le_refl _) (fun l h => Nat.le_of_lt (hls l h)) (by have := f1.1; omega) fun p o h => f1.at (hext0 p o h).1 (hext0 p o h).2
end Bz.K12

set_option Elab.async false
set_option linter.all false
set_option maxRecDepth 100000
set_option maxHeartbeats 4000000
set_option pp.deepTerms false
set_option pp.deepTerms.threshold 3
/-! k12: ranks. -/
namespace Bz.K12
open PySem PySem.Spec PyProof.Rows L2 PySem.W
local macro_rules | `(tactic| walk_at "w") => `(tactic| repeat (first
  | with_reducible refine w_sSeq ?_ | with_reducible refine w_sIf ?_ | with_reducible refine w_sAsg ?_ | with_reducible refine w_sRet ?_ | with_reducible refine w_sNil ?_ | with_reducible refine w_sExpr ?_ | with_reducible refine w_sFor ?_
  | with_reducible refine w_asB ?_ | with_reducible refine w_tru ?_ | with_reducible refine w_tsAnd ?_ | with_reducible refine w_tsOr ?_ | with_reducible refine w_tsNot ?_ | with_reducible refine w_tsYes ?_ | with_reducible refine w_and ?_ | with_reducible refine w_or ?_ | with_reducible refine w_not ?_ | with_reducible refine w_eIf ?_
  | with_reducible refine w_bin ?_ | with_reducible refine w_un ?_ | with_reducible refine w_chain ?_ | with_reducible refine w_nm rfl ?_ | with_reducible refine w_c ?_ | with_reducible refine w_stlV ?_ | with_reducible refine w_stlN ?_
  | with_reducible refine w_aNil ?_ | with_reducible refine w_aCons ?_ | with_reducible refine w_eTup ?_ | with_reducible refine w_eLst ?_ | with_reducible refine w_call ?_ | with_reducible refine w_eSl ?_ | with_reducible refine w_ptNo ?_ | with_reducible refine w_ptI ?_ | with_reducible refine w_m1 ?_ | with_reducible refine w_m2 ?_ | with_reducible refine w_eLc ?_
  | with_reducible refine dl_q (Nat.le_of_ble_eq_true rfl) ?_ | with_reducible refine int_q ?_ | with_reducible refine as_q ?_
  | with_reducible refine ty_q (ty_loc (by assumption)) ?_
  | with_reducible refine sq_nx ?_ | with_reducible refine sq_rt ?_ | with_reducible refine sq_bk ?_ | with_reducible refine sq_ct ?_ | with_reducible refine fq_rt ?_ | with_reducible refine fq_nx ?_ | with_reducible refine tq_nx ?_ | with_reducible refine tq_ct ?_ | with_reducible refine tq_bk ?_ | with_reducible refine tq_rt ?_
  | with_reducible refine w_srA ?_ | with_reducible refine w_srR1 ?_ | with_reducible refine w_srR2 ?_ | with_reducible refine w_srZ ?_
  | with_reducible refine src_q (src_loc (by assumption)) ?_ | with_reducible refine src_q rfl ?_
  | with_reducible refine w_addI ?_ | with_reducible refine w_subI ?_ | with_reducible refine w_mulI (by omega) ?_ | with_reducible refine w_divI (by omega) (by omega) ?_ | with_reducible refine w_modI (by first | omega | decide +kernel) ?_ | with_reducible refine w_powI rfl ?_ | with_reducible refine w_neg ?_ | with_reducible refine w_iaddI ?_
  | with_reducible refine w_max ?_ | with_reducible refine w_min ?_ | with_reducible refine w_abs ?_
  | with_reducible refine w_gtI ?_ | with_reducible refine w_ltI ?_ | with_reducible refine w_leI ?_ | with_reducible refine w_geI ?_ | with_reducible refine w_eqI ?_ | with_reducible refine w_neI ?_ | with_reducible refine w_eqS ?_ | with_reducible refine w_neS ?_
  | with_reducible refine w_ixT rfl ?_ | with_reducible refine w_ixR rfl ?_ | with_reducible refine w_ixL (by assumption) rfl ?_
  | with_reducible refine w_len (seq_loc (by assumption)) ?_ | with_reducible refine w_len rfl ?_
  | with_reducible refine w_gNm (Nat.le_of_ble_eq_true rfl) ?_ | with_reducible refine w_gSb ?_ | with_reducible refine w_gTp rfl ?_ | with_reducible refine w_gsCons ?_ | with_reducible refine w_gsNil ?_
  | with_reducible refine w_sPar2 ?_ | with_reducible refine w_sPar3 ?_ | with_reducible refine w_sAug rfl ?_
  | with_reducible refine br_n ?_ | with_reducible refine br_t ?_ | with_reducible refine br_f ?_))
def rowP (p : Int × Int) : PyData := .tuple [.int (0 - p.1), .int p.2]
def rankP (r : List (Int × Int)) : PyData := .tuple [.int (sentS r), .list (r.map rowP)]
theorem rowP_alike : ∀ (a b : List (Int × Int)), alikeAll (a.map rowP) (b.map rowP) = true
  | [], _ => by simp [alikeAll]
  | _ :: _, [] => by simp [alikeAll]
  | p :: a, q :: b => by
    rw [List.map_cons, List.map_cons, alikeAll, rowP_alike a b]
    simp [rowP, alike, alikeAll]
theorem rankP_alike (a b : List (Int × Int)) : alike (rankP a) (rankP b) = true := by
  simp [rankP, alike, alikeAll, rowP_alike]
theorem rowP_eqv (p q : Int × Int) : PyData.eqv (rowP p) (rowP q) = decide (p = q) := by
  simp only [rowP, PyData.eqv, PyData.eqvAll, Bool.and_true]
  show (decide (0 - p.1 = 0 - q.1) && decide (p.2 = q.2)) = _
  rw [← Bool.decide_and]
  exact decide_eq_decide.mpr ⟨fun e => Prod.ext (by omega) e.2, fun e => by rw [e]; exact ⟨rfl, rfl⟩⟩
theorem rowsP_eqv : ∀ (a b : List (Int × Int)), PyData.eqvAll (a.map rowP) (b.map rowP) = decide (a = b)
  | [], [] => by simp [PyData.eqvAll]
  | [], _ :: _ => by simp [PyData.eqvAll]
  | _ :: _, [] => by simp [PyData.eqvAll]
  | p :: a, q :: b => by
    rw [List.map_cons, List.map_cons, PyData.eqvAll, rowP_eqv, rowsP_eqv a b, ← Bool.decide_and]
    exact decide_eq_decide.mpr (by rw [List.cons.injEq])
theorem rowsP_lt : ∀ (a b : List (Int × Int)), rowLt (a.map rowP) (b.map rowP) = lexR a b
  | [], [] => lex_irrefl _
  | [], y :: ys => by
    unfold rowLt
    rw [List.map_cons, toks_all_cons]
    simp only [List.map_nil, keyToksAll]
    rw [lex_diff (O := itemOrd) (by simp)]
    rfl
  | x :: xs, [] => by
    unfold rowLt
    rw [List.map_cons, toks_all_cons]
    simp only [List.map_nil, keyToksAll]
    rw [lex_diff (O := itemOrd) (by simp)]
    rfl
  | p :: a, q :: b => by
    unfold rowLt
    rw [List.map_cons, List.map_cons, dataLt_cons (by simp [rowP, alike, alikeAll]), rowP_eqv]
    have ih : PyProof.Rows.lexLt itemOrd (keyToksAll (a.map rowP)) (keyToksAll (b.map rowP)) = lexR a b := rowsP_lt a b
    rw [ih]
    show _ = if p = q then lexR a b else decide (q.1 < p.1 ∨ (p.1 = q.1 ∧ p.2 < q.2))
    by_cases e : p = q
    · rw [if_pos (decide_eq_true e), if_pos e]
    · rw [if_neg (by rw [decide_eq_false e]; exact Bool.false_ne_true), if_neg e]
      show dataLt (.tuple [.int (0 - p.1), .int p.2]) (.tuple [.int (0 - q.1), .int q.2]) = _
      rw [dataLt_ii]
      exact decide_eq_decide.mpr ⟨fun z => by omega, fun z => by omega⟩
def ltK (a b : List (Int × Int)) : Bool := if sentS a = sentS b then (if a = b then false else lexR a b) else decide (sentS a < sentS b)
theorem rankP_lt (a b : List (Int × Int)) : dataLt (rankP a) (rankP b) = ltK a b := by
  unfold rankP ltK
  rw [dataLt_pair (by simp [alike]) (by simp [alike, rowP_alike]), dataLt_int, dataLt_list]
  simp only [PyData.eqv, beq_iff_eq, rowsP_eqv, decide_eq_true_eq]
  by_cases e : sentS a = sentS b
  · rw [if_pos e, if_pos e]
    by_cases e2 : a = b
    · rw [if_pos e2, if_pos e2]
    · rw [if_neg e2, if_neg e2]
      exact rowsP_lt a b
  · rw [if_neg e, if_neg e]
theorem fold_least {r : PyData} (hr : dataLt r r = false) : ∀ (xs : List PyData) (a : PyData), (a = r ∨ r ∈ xs) → (∀ x ∈ a :: xs, x = r ∨ (dataLt r x = true ∧ dataLt x r = false)) → xs.foldl (fun a y => if dataLt y a then y else a) a = r
  | [], a, h, _ => by
    rcases h with h | h
    · exact h
    · cases h
  | y :: xs, a, h, hx => by
    rw [List.foldl_cons]
    have ha := hx a List.mem_cons_self
    have hy := hx y (List.mem_cons_of_mem _ List.mem_cons_self)
    refine fold_least hr xs _ ?_ fun x hx' => ?_
    · by_cases e : a = r
      · left
        subst e
        rcases hy with rfl | ⟨h1, h2⟩
        · rw [hr]; rfl
        · rw [h2]; rfl
      · by_cases e2 : y = r
        · left
          rcases ha with ha | ⟨h1, h2⟩
          · exact absurd ha e
          · rw [e2, h1]; rfl
        · right
          rcases h with h | h
          · exact absurd h e
          · rcases List.mem_cons.mp h with h | h
            · exact absurd h.symm e2
            · exact h
    · rcases List.mem_cons.mp hx' with rfl | hx'
      · split
        · exact hy
        · exact ha
      · exact hx x (List.mem_cons_of_mem _ (List.mem_cons_of_mem _ hx'))
/-- the least of a list of data -/
theorem least_is {r : PyData} {ds : List PyData} (h0 : r ∈ ds) (hr : dataLt r r = false) (hx : ∀ x ∈ ds, x = r ∨ (dataLt r x = true ∧ dataLt x r = false)) : ds[leastIx ds]? = some r := by
  cases ds with
  | nil => cases h0
  | cons a xs =>
    obtain ⟨h1, h2⟩ := argBest_fold dataLt PyData.none a xs xs.length (Nat.le_refl _)
    have e : leastIx (a :: xs) = argBest (fun i j => dataLt ((a :: xs).getD i .none) ((a :: xs).getD j .none)) xs.length := rfl
    rw [List.take_length] at h2
    have h3 : (a :: xs).getD (leastIx (a :: xs)) .none = r := by
      rw [e, h2]
      refine fold_least hr xs a ?_ hx
      rcases List.mem_cons.mp h0 with h | h
      · exact .inl h.symm
      · exact .inr h
    have hlt : leastIx (a :: xs) < (a :: xs).length := by rw [e, List.length_cons]; omega
    rw [List.getElem?_eq_getElem hlt]
    rw [List.getD_eq_getElem?_getD, List.getElem?_eq_getElem hlt] at h3
    exact congrArg some h3
theorem rfds_get {lk : Nat → Option PyData} : ∀ {xs : List D} {ds : List PyData}, rfds lk xs = some ds → ∀ (i : Nat) (p : PyData), ds[i]? = some p → ∃ d, xs[i]? = some d ∧ rfd lk d = some p
  | [], ds, h, i, p, hp => by cases h; simp at hp
  | x :: xs, ds, h, i, p, hp => by
    have h : (match rfd lk x, rfds lk xs with
      | some d, some ds => some (d :: ds)
      | _, _ => none) = some ds := h
    split at h
    · rename_i e1 e2
      cases h
      cases i with
      | zero => cases hp; exact ⟨x, rfl, e1⟩
      | succ i => exact rfds_get e2 i p hp
    · cases h
theorem w_min1 {x : Rv} {xs : List D} {ds : List PyData} {r : PyData} {S : Sto} {Q : Rv → Sto → Prop} (h : lrdOf x S = some xs) (hd : rfds (lkS S 12) xs = some ds) (hk : bestOk ds = true) (h0 : r ∈ ds) (hr : dataLt r r = false) (hx : ∀ x ∈ ds, x = r ∨ (dataLt r x = true ∧ dataLt x r = false))
    (q : ∀ d, d ∈ xs → rfd (lkS S 12) d = some r → Q (.val d) S) : W (min1V x S) Q := by
  obtain ⟨d, h1, h2⟩ := rfds_get hd _ _ (least_is h0 hr hx)
  unfold min1V best1
  simp only [h, hd, if_pos hk, h1]
  exact .ok (q d (List.mem_of_getElem? h1) h2)
def rankD (p : Int × Int) : D := .tup [.int (0 - p.1), .int p.2]
def RankS (g : FnM) : Prop := ∀ (m : Nat) (r : List (Int × Int)) (S : Sto) (Q : D → Sto → Prop), S[m]? = some (.lst (r.map pairD)) → r.length < 1000 → Q (.tup [.int (sentS r), .loc S.length]) (S ++ [.lst (r.map rankD)]) → W (g [.loc m] S) Q
theorem rank_ok (F : Str → FnM) : RankS (runL 1 4 (b_law_rank F)) := by
  intro m r S Q hm hl q
  refine w_runL rfl ?_
  unfold b_law_rank
  walk_at "w"
  refine ⟨by rw [List.length_map]; unfold big; omega, ?_⟩
  refine w_lcGo (fun i acc S' => S' = S ∧ acc = (r.take i).map rankD) ⟨rfl, rfl⟩ ?_ ?_
  · rintro i x acc S' hx ⟨rfl, rfl⟩
    obtain ⟨p, hp, rfl⟩ := map_get hx
    refine ⟨gok_cons hm gok_nil, ?_⟩
    walk_at "w"
    refine ⟨rfl, ?_⟩
    rw [take_succ hp, List.map_append]
    rfl
  rintro acc S' ⟨rfl, rfl⟩
  refine ⟨gok_cons hm gok_nil, ?_⟩
  rw [List.length_map, List.take_length]
  walk_at "w"
  have hm1 := at_left (os := [Ob.lst (r.map rankD)]) hm
  refine src_q (src_loc hm1) ?_
  refine ⟨by rw [List.length_map]; unfold big; omega, ?_⟩
  refine w_lcGo (fun i acc S2 => S2 = S' ++ [Ob.lst (r.map rankD)] ∧ acc = (r.take i).map fun p => D.int p.2) ⟨rfl, rfl⟩ ?_ ?_
  · rintro i x acc S2 hx ⟨rfl, rfl⟩
    obtain ⟨p, hp, rfl⟩ := map_get hx
    refine ⟨gok_cons hm1 gok_nil, ?_⟩
    walk_at "w"
    refine ⟨rfl, ?_⟩
    rw [take_succ hp, List.map_append]
    rfl
  rintro acc S2 ⟨rfl, rfl⟩
  refine ⟨gok_cons hm1 gok_nil, ?_⟩
  rw [List.length_map, List.take_length]
  have hints : ∀ r : List (Int × Int), intsOf (r.map fun p => D.int p.2) = some (r.map Prod.snd) := by
    intro r
    induction r with
    | nil => rfl
    | cons p r ih => simp [intsOf, ih]
  refine w_sum (ns := r.map Prod.snd) (hints r) ?_
  walk_at "w"
  exact q
end Bz.K12

set_option Elab.async false
set_option linter.all false
set_option maxRecDepth 100000
set_option maxHeartbeats 4000000
set_option pp.deepTerms false
set_option pp.deepTerms.threshold 3
/-! k12: the law's def. -/
namespace Bz.K12
open PySem PySem.Spec PyProof.Rows L2 PySem.W
local macro_rules | `(tactic| walk_at "w") => `(tactic| repeat (first
  | with_reducible refine w_sSeq ?_ | with_reducible refine w_sIf ?_ | with_reducible refine w_sAsg ?_ | with_reducible refine w_sRet ?_ | with_reducible refine w_sNil ?_ | with_reducible refine w_sExpr ?_ | with_reducible refine w_sFor ?_
  | with_reducible refine w_asB ?_ | with_reducible refine w_tru ?_ | with_reducible refine w_tsAnd ?_ | with_reducible refine w_tsOr ?_ | with_reducible refine w_tsNot ?_ | with_reducible refine w_tsYes ?_ | with_reducible refine w_and ?_ | with_reducible refine w_or ?_ | with_reducible refine w_not ?_ | with_reducible refine w_eIf ?_
  | with_reducible refine w_bin ?_ | with_reducible refine w_un ?_ | with_reducible refine w_chain ?_ | with_reducible refine w_nm rfl ?_ | with_reducible refine w_c ?_ | with_reducible refine w_stlV ?_ | with_reducible refine w_stlN ?_
  | with_reducible refine w_aNil ?_ | with_reducible refine w_aCons ?_ | with_reducible refine w_eTup ?_ | with_reducible refine w_eLst ?_ | with_reducible refine w_call ?_ | with_reducible refine w_eSl ?_ | with_reducible refine w_ptNo ?_ | with_reducible refine w_ptI ?_ | with_reducible refine w_m1 ?_ | with_reducible refine w_m2 ?_ | with_reducible refine w_eLc ?_
  | with_reducible refine dl_q (Nat.le_of_ble_eq_true rfl) ?_ | with_reducible refine int_q ?_ | with_reducible refine as_q ?_
  | with_reducible refine ty_q (ty_loc (by assumption)) ?_
  | with_reducible refine sq_nx ?_ | with_reducible refine sq_rt ?_ | with_reducible refine sq_bk ?_ | with_reducible refine sq_ct ?_ | with_reducible refine fq_rt ?_ | with_reducible refine fq_nx ?_ | with_reducible refine tq_nx ?_ | with_reducible refine tq_ct ?_ | with_reducible refine tq_bk ?_ | with_reducible refine tq_rt ?_
  | with_reducible refine w_srA ?_ | with_reducible refine w_srR1 ?_ | with_reducible refine w_srR2 ?_ | with_reducible refine w_srZ ?_
  | with_reducible refine src_q (src_loc (by assumption)) ?_ | with_reducible refine src_q rfl ?_
  | with_reducible refine w_addI ?_ | with_reducible refine w_subI ?_ | with_reducible refine w_mulI (by omega) ?_ | with_reducible refine w_divI (by omega) (by omega) ?_ | with_reducible refine w_modI (by first | omega | decide +kernel) ?_ | with_reducible refine w_powI rfl ?_ | with_reducible refine w_neg ?_ | with_reducible refine w_iaddI ?_
  | with_reducible refine w_max ?_ | with_reducible refine w_min ?_ | with_reducible refine w_abs ?_
  | with_reducible refine w_gtI ?_ | with_reducible refine w_ltI ?_ | with_reducible refine w_leI ?_ | with_reducible refine w_geI ?_ | with_reducible refine w_eqI ?_ | with_reducible refine w_neI ?_ | with_reducible refine w_eqS ?_ | with_reducible refine w_neS ?_
  | with_reducible refine w_ixT rfl ?_ | with_reducible refine w_ixR rfl ?_ | with_reducible refine w_ixL (by assumption) rfl ?_
  | with_reducible refine w_len (seq_loc (by assumption)) ?_ | with_reducible refine w_len rfl ?_
  | with_reducible refine w_gNm (Nat.le_of_ble_eq_true rfl) ?_ | with_reducible refine w_gSb ?_ | with_reducible refine w_gTp rfl ?_ | with_reducible refine w_gsCons ?_ | with_reducible refine w_gsNil ?_
  | with_reducible refine w_sPar2 ?_ | with_reducible refine w_sPar3 ?_ | with_reducible refine w_sAug rfl ?_
  | with_reducible refine br_n ?_ | with_reducible refine br_t ?_ | with_reducible refine br_f ?_))
theorem end_nn {b k : Int} (hb : 0 ≤ b) (hk : 0 ≤ k) : ∀ (t : Int) (cs : List Int), 0 ≤ t → (∀ c ∈ cs, (0 : Int) ≤ c) → 0 ≤ endF b k t cs
  | _, [], ht, _ => ht
  | t, c :: cs, ht, hc => by
    have h0 := hc c List.mem_cons_self
    refine end_nn hb hk _ cs ?_ fun c' h => hc c' (List.mem_cons_of_mem _ h)
    simp only [stayF, dayF]
    omega
theorem goF_days {b k : Int} (hb : 0 ≤ b) (hk : 0 ≤ k) : ∀ (t : Int) (cs : List Int), 0 ≤ t → (∀ c ∈ cs, (0 : Int) ≤ c) → goF b k t (cs.zip ((daysF b k t cs).map pairD)) = true
  | _, [], _, _ => rfl
  | t, c :: cs, ht, hc => by
    have h0 := hc c List.mem_cons_self
    show goF b k t ((c, pairD (dayF b k (t + c))) :: cs.zip ((daysF b k (stayF b k (t + c)) cs).map pairD)) = true
    have e : rowF b k t c (pairD (dayF b k (t + c))) = some (stayF b k (t + c)) := by
      show (if 0 ≤ (dayF b k (t + c)).1 ∧ 0 ≤ (dayF b k (t + c)).2 ∧ (dayF b k (t + c)).1 ≤ b ∧ 0 ≤ t + c - (dayF b k (t + c)).1 - (dayF b k (t + c)).2 ∧ t + c - (dayF b k (t + c)).1 - (dayF b k (t + c)).2 ≤ k then some (t + c - (dayF b k (t + c)).1 - (dayF b k (t + c)).2) else none) = _
      rw [if_pos (by simp only [dayF]; omega)]
      rfl
    rw [goF_some e]
    exact goF_days hb hk _ cs (by simp only [stayF, dayF]; omega) fun c' h => hc c' (List.mem_cons_of_mem _ h)
theorem days_get {b k : Int} : ∀ (t : Int) (cs : List Int) (i : Nat) (c : Int), cs[i]? = some c → (daysF b k t cs)[i]? = some (dayF b k (endF b k t (cs.take i) + c))
  | _, [], i, c, h => by simp at h
  | t, d :: cs, 0, c, h => by cases h; rfl
  | t, d :: cs, i + 1, c, h => days_get (stayF b k (t + d)) cs i c h
theorem stays_get {b k : Int} : ∀ (t : Int) (cs : List Int) (i : Nat) (c : Int), cs[i]? = some c → (staysF t (cs.zip (daysF b k t cs)))[i]? = some (endF b k t (cs.take (i + 1)))
  | _, [], i, c, h => by simp at h
  | t, d :: cs, 0, c, h => rfl
  | t, d :: cs, i + 1, c, h => stays_get (stayF b k (t + d)) cs i c h
theorem all_sum {b k : Int} : ∀ (t : Int) (cs : List Int), t + cs.sum = endF b k t cs + ((daysF b k t cs).map fun p => p.1 + p.2).sum
  | t, [] => rfl
  | t, c :: cs => by
    have ih := all_sum (b := b) (k := k) (stayF b k (t + c)) cs
    show t + (c + cs.sum) = endF b k (stayF b k (t + c)) cs + ((dayF b k (t + c)).1 + (dayF b k (t + c)).2 + ((daysF b k (stayF b k (t + c)) cs).map fun p => p.1 + p.2).sum)
    have e : stayF b k (t + c) = t + c - (dayF b k (t + c)).1 - (dayF b k (t + c)).2 := rfl
    omega
theorem ints_of {α : Type} (f : α → Int) : ∀ r : List α, intsOf (r.map fun p => D.int (f p)) = some (r.map f)
  | [] => rfl
  | p :: r => by simp [intsOf, ints_of f r]
mutual
theorem rfd_mono {lk lk' : Nat → Option PyData} (h : ∀ m p, lk m = some p → lk' m = some p) : ∀ (d : D) (p : PyData), rfd lk d = some p → rfd lk' d = some p
  | .non, p, e => e
  | .bl _, p, e => e
  | .int _, p, e => e
  | .str _, p, e => e
  | .tup xs, p, e => by
    obtain ⟨ds, e1, e2⟩ := Option.map_eq_some_iff.mp (show (rfds lk xs).map PyData.tuple = some p from e)
    show (rfds lk' xs).map PyData.tuple = some p
    rw [rfds_mono h xs ds e1, ← e2]
    rfl
  | .rol xs, p, e => by
    obtain ⟨ds, e1, e2⟩ := Option.map_eq_some_iff.mp (show (rfds lk xs).map PyData.list = some p from e)
    show (rfds lk' xs).map PyData.list = some p
    rw [rfds_mono h xs ds e1, ← e2]
    rfl
  | .loc m, p, e => h m p e
  | .fn _, p, e => e
theorem rfds_mono {lk lk' : Nat → Option PyData} (h : ∀ m p, lk m = some p → lk' m = some p) : ∀ (xs : List D) (ds : List PyData), rfds lk xs = some ds → rfds lk' xs = some ds
  | [], ds, e => e
  | x :: xs, ds, e => by
    have e : (match rfd lk x, rfds lk xs with
      | some d, some ds => some (d :: ds)
      | _, _ => none) = some ds := e
    split at e
    · rename_i e1 e2
      show (match rfd lk' x, rfds lk' xs with
        | some d, some ds => some (d :: ds)
        | _, _ => none) = some ds
      rw [rfd_mono h x _ e1, rfds_mono h xs _ e2]
      exact e
    · cases e
end
theorem lkS_ext {S S' : Sto} (h : ∀ (m : Nat) (o : Ob), S[m]? = some o → S'[m]? = some o) : ∀ n m p, lkS S n m = some p → lkS S' n m = some p
  | 0, m, p, e => e
  | n + 1, m, p, e => by
    have e : (match S[m]? with
      | some (.lst xs) => (rfds (lkS S n) xs).map PyData.list
      | _ => none) = some p := e
    split at e
    · rename_i xs hm
      obtain ⟨ds, e1, e2⟩ := Option.map_eq_some_iff.mp e
      show (match S'[m]? with
        | some (.lst xs) => (rfds (lkS S' n) xs).map PyData.list
        | _ => none) = some p
      rw [h m _ hm]
      show (rfds (lkS S' n) xs).map PyData.list = some p
      rw [rfds_mono (lkS_ext h n) xs ds e1, ← e2]
      rfl
    · cases e
theorem rfds_mapG {α : Type} {lk : Nat → Option PyData} {f : α → D} {g : α → PyData} (h : ∀ x, rfd lk (f x) = some (g x)) : ∀ xs : List α, rfds lk (xs.map f) = some (xs.map g)
  | [] => rfl
  | x :: xs => by
    show (match rfd lk (f x), rfds lk (xs.map f) with
    | some d, some ds => some (d :: ds)
    | _, _ => none) = _
    rw [h, rfds_mapG h xs]
    rfl
theorem rfds_app {lk : Nat → Option PyData} : ∀ {xs ys : List D} {ds es : List PyData}, rfds lk xs = some ds → rfds lk ys = some es → rfds lk (xs ++ ys) = some (ds ++ es)
  | [], ys, ds, es, h, h2 => by cases h; exact h2
  | x :: xs, ys, ds, es, h, h2 => by
    have h : (match rfd lk x, rfds lk xs with
      | some d, some ds => some (d :: ds)
      | _, _ => none) = some ds := h
    split at h
    · rename_i e1 e2
      cases h
      show (match rfd lk x, rfds lk (xs ++ ys) with
        | some d, some ds => some (d :: ds)
        | _, _ => none) = _
      rw [e1, rfds_app e2 h2]
      rfl
    · cases h
theorem rank_rfd {S : Sto} {n : Nat} {r : List (Int × Int)} (h : S[n]? = some (.lst (r.map rankD))) : rfd (lkS S 12) (.tup [.int (sentS r), .loc n]) = some (rankP r) := by
  have e : lkS S 12 n = some (.list (r.map rowP)) := by
    show (match S[n]? with
      | some (.lst xs) => (rfds (lkS S 11) xs).map PyData.list
      | _ => none) = _
    rw [h]
    show (rfds (lkS S 11) (r.map rankD)).map PyData.list = _
    rw [rfds_mapG (g := rowP) (fun x => rfl)]
    rfl
  show (match (some (PyData.int (sentS r))), (match lkS S 12 n, (some [] : Option (List PyData)) with
    | some d, some ds => some (d :: ds)
    | _, _ => none) with
    | some d, some ds => some (d :: ds)
    | _, _ => none).map PyData.tuple = _
  rw [e]
  rfl
theorem depAll_le {n : Nat} : ∀ {ds : List PyData}, (∀ x ∈ ds, x.depth ≤ n) → PyData.depthAll ds ≤ n
  | [], _ => Nat.zero_le _
  | d :: ds, h => by
    rw [PyData.depthAll]
    exact Nat.max_le.mpr ⟨h d List.mem_cons_self, depAll_le fun x hx => h x (List.mem_cons_of_mem _ hx)⟩
theorem rankP_dep (r : List (Int × Int)) : (rankP r).depth ≤ 3 := by
  have h : PyData.depthAll (r.map rowP) ≤ 1 := depAll_le fun x hx => by
    obtain ⟨p, _, rfl⟩ := List.mem_map.mp hx
    simp only [rowP, PyData.depth, PyData.depthAll]
    decide
  simp only [rankP, PyData.depth, PyData.depthAll]
  omega
theorem rankP_lay (r : List (Int × Int)) : (rankP r).canLay0 = true := by
  have h : ∀ r : List (Int × Int), PyData.canLayAll0 (r.map rowP) = true := by
    intro r
    induction r with
    | nil => rfl
    | cons p r ih => rw [List.map_cons, PyData.canLayAll0, ih]; rfl
  simp only [rankP, PyData.canLay0, PyData.canLayAll0, h, Bool.and_self]
theorem rankP_sh (r : List (Int × Int)) : SeqAt.shaped (rankP r) = true := by
  unfold SeqAt.shaped
  rw [rankP_lay]
  have := rankP_dep r
  exact decide_eq_true (by omega)
theorem ranks_best {rows : List (List (Int × Int))} (h : 0 < rows.length) : bestOk (rows.map rankP) = true := by
  unfold bestOk
  rw [Bool.and_eq_true, Bool.and_eq_true, Bool.and_eq_true]
  refine ⟨⟨⟨decide_eq_true (by rw [List.length_map]; exact h), ?_⟩, ?_⟩, decide_eq_true (depAll_le fun x hx => ?_)⟩
  · refine List.all_eq_true.mpr fun p hp => List.all_eq_true.mpr fun q hq => ?_
    obtain ⟨a, _, rfl⟩ := List.mem_map.mp hp
    obtain ⟨b, _, rfl⟩ := List.mem_map.mp hq
    exact rankP_alike a b
  · refine List.all_eq_true.mpr fun p hp => ?_
    obtain ⟨a, _, rfl⟩ := List.mem_map.mp hp
    rfl
  · obtain ⟨a, _, rfl⟩ := List.mem_map.mp hx
    exact Nat.le_trans (rankP_dep a) (by decide)
/-- the told days are the first of all that send the least -/
theorem ranks_least {b k t : Int} {cs : List Int} (hb : 0 ≤ b) (hk : 0 ≤ k) (ht : 0 ≤ t) (hc : ∀ c ∈ cs, (0 : Int) ≤ c) :
    rankP (daysF b k t cs) ∈ (allD b k t cs).map rankP ∧ dataLt (rankP (daysF b k t cs)) (rankP (daysF b k t cs)) = false ∧ ∀ x ∈ (allD b k t cs).map rankP, x = rankP (daysF b k t cs) ∨ (dataLt (rankP (daysF b k t cs)) x = true ∧ dataLt x (rankP (daysF b k t cs)) = false) := by
  refine ⟨List.mem_map_of_mem (day_allD t cs _ (days_day hb hk t cs ht hc)), ?_, fun x hx => ?_⟩
  · rw [rankP_lt]
    unfold ltK
    rw [if_pos rfl, if_pos rfl]
  · obtain ⟨r, hr, rfl⟩ := List.mem_map.mp hx
    have hd := allD_day t cs r hr
    have hs := sent_least hk cs 0 t 0 t r (Int.le_refl _) (Int.le_refl _) hd
    rw [rankP_lt, rankP_lt]
    rcases lex_first hk cs t r hd with h | ⟨h1, h2⟩
    · exact .inl (by rw [h])
    · refine .inr ⟨?_, ?_⟩
      · unfold ltK
        split
        · split
          · rename_i e; rw [← e] at h1 h2; rw [h1] at h2; cases h2
          · exact h1
        · exact decide_eq_true (by omega)
      · unfold ltK
        split
        · split
          · rfl
          · exact h2
        · exact decide_eq_false (by omega)
theorem w_srZ3 {S : Sto} {env : Env} {fa fb fc : ExM} {Q : List D × Gs → Sto → Prop} (h : W (fa env S) fun x S1 => W (fb env S1) fun y S2 => W (fc env S2) fun z S3 => ∃ s t u, srcOf x S3 = some s ∧ srcOf y S3 = some t ∧ srcOf z S3 = some u ∧ (isTup x = false ∧ isTup y = false ∧ isTup z = false) ∧ Q (zipD3 s.1 t.1 u.1, s.2 ++ (t.2 ++ u.2)) S3) : W (srZ3 fa fb fc env S) Q := by
  refine .bnd (h.imp fun x S1 h => .bnd (h.imp fun y S2 h => .bnd (h.imp fun z S3 h => ?_)))
  obtain ⟨s, t, u, e1, e2, e3, e4, q⟩ := h
  simp only [e1, e2, e3, if_pos e4]
  exact .ok q
theorem law_ok {F : Str → FnM} (B : BagS (F "_law_bag")) (T : TakeS (F "_law_take")) (O : OfS (F "_law_of")) (L : LimitsS (F "_law_limits")) (C : ComesS (F "_law_comes")) (DY : DaysS (F "days")) (ST : StaysS (F "_law_stays"))
    (A1 : AreS (F "are_days")) (AD : ∀ n, n ≤ 3 → AllS n (F "_law_all_days")) (RK : RankS (F "_law_rank")) (ns : List Int) (hns : ns.length ≤ 63) :
    W (runL 1 19 (b_law F) [.rol (ns.map D.int)] []) fun d _ => d = .bl true := by
  refine w_runL rfl ?_
  unfold b_law
  walk_at "w"
  refine ⟨_, rfl, by rw [List.length_map]; omega, ?_⟩
  refine w_forGo (fun i env S' => ∃ e1 e2 e3 e4 e5 e6 e7 e8 e9 e10 e11 e12 e13 e14 e15 e16 e17, env = [some (.rol (ns.map D.int)), e1, e2, e3, e4, e5, e6, e7, e8, e9, e10, e11, e12, e13, e14, e15, e16, e17, none]) ⟨_, _, _, _, _, _, _, _, _, _, _, _, _, _, _, _, _, rfl⟩ ?_ ?_
  · rintro i x env S hx ⟨e1, e2, e3, e4, e5, e6, e7, e8, e9, e10, e11, e12, e13, e14, e15, e16, e17, rfl⟩
    obtain ⟨hi, rfl⟩ := rngI_get hx
    refine ⟨gok_nil, ?_⟩
    walk_at "w"
    rw [Int.zero_add]
    refine B S ns i _ (by rw [List.length_map] at hi; omega) fun S1 hb1 f1 l1 => ?_
    walk_at "w"
    refine L _ _ _ hb1 fun b k S2 b0 b1 k0 k1 hb2 f2 => ?_
    walk_at "w"
    refine C _ _ _ _ hb2 (by decide) (by decide) fun cs mc S3 hcs hlc hlm hmn hm3 hb3 f3 => ?_
    walk_at "w"
    refine ⟨_, _, rfl, ⟨Nat.le_of_ble_eq_true rfl, Nat.le_of_ble_eq_true rfl⟩, ?_⟩
    walk_at "w"
    have hb3' : Bag S.length (S3 ++ [Ob.lst [.int 0, .int 4, .int 100, .int k]]) := hb3.push
    refine O _ _ _ _ _ hb3' at_new hb3.ne (by simp) (by simp) fun d S4 hd hb4 f4 _ => ?_
    have hd : ∃ t, (0 : Int) ≤ t ∧ t ≤ 100 ∧ d = .int t := by
      simp only [List.mem_cons, List.not_mem_nil, or_false] at hd
      rcases hd with rfl | rfl | rfl | rfl
      · exact ⟨_, by decide, by decide, rfl⟩
      · exact ⟨_, by decide, by decide, rfl⟩
      · exact ⟨_, by decide, by decide, rfl⟩
      · exact ⟨_, k0, by omega, rfl⟩
    obtain ⟨t, t0, t1, rfl⟩ := hd
    have hm4 := f4.at (at_left (os := [Ob.lst [.int 0, .int 4, .int 100, .int k]]) hm3) hmn
    have hcs0 : ∀ c ∈ cs, (0 : Int) ≤ c := fun c h => (hcs c h).1
    walk_at "w"
    have hlcs : cs.length < 10000 := by omega
    refine DY _ _ _ _ _ _ _ hm4 hlcs ?_
    walk_at "w"
    have hb5 := hb4.push (os := [Ob.lst ((daysF b k t cs).map pairD)])
    have hm5 := at_left (os := [Ob.lst ((daysF b k t cs).map pairD)]) hm4
    have ht5 : (S4 ++ [Ob.lst ((daysF b k t cs).map pairD)])[S4.length]? = some (.lst ((daysF b k t cs).map pairD)) := at_new
    have htn : S4.length ≠ S.length := hb4.ne
    have hdl : (daysF b k t cs).length = cs.length := daysF_len _ _ _ _
    generalize (S4 ++ [Ob.lst ((daysF b k t cs).map pairD)] : Sto) = S5 at hb5 hm5 ht5 ⊢
    generalize S4.length = mt at ht5 htn ⊢
    have g5 : Thg (fun _ => True) (fun m => m ≠ S.length) 40 S5 2 (.loc mt) := .inr ⟨_, .inr ⟨_, rfl, htn, ht5⟩, by rw [List.length_map, hdl]; omega, fun x hx => by
      obtain ⟨p, _, rfl⟩ := List.mem_map.mp hx
      exact .inr ⟨_, .inl rfl, by simp, fun y hy => by
        simp only [List.mem_cons, List.not_mem_nil, or_false] at hy
        rcases hy with rfl | rfl <;> exact Thg.sca (d := .int _) trivial⟩⟩
    refine A1 _ _ _ _ _ _ _ _ _ _ _ _ b0 b1 k0 k1 t0 t1 hm5 hcs hlcs g5 ?_
    have hare : areF S5 b k t cs (.loc mt) = true := by
      unfold areF
      simp only [ht5, List.length_map, hdl, decide_true, Bool.true_and]
      exact goF_days b0 k0 t cs t0 hcs0
    rw [hare]
    walk_at "w"
    refine w_isnot (b := true) rfl ?_
    walk_at "w"
    refine w_srZ3 ?_
    walk_at "w"
    refine ST _ _ _ _ _ _ _ hm5 ht5 hlcs ?_
    have hb6 := hb5.push (os := [Ob.lst ((staysF t (cs.zip (daysF b k t cs))).map D.int)])
    have hm6 := at_left (os := [Ob.lst ((staysF t (cs.zip (daysF b k t cs))).map D.int)]) hm5
    have ht6 := at_left (os := [Ob.lst ((staysF t (cs.zip (daysF b k t cs))).map D.int)]) ht5
    have hs6 : (S5 ++ [Ob.lst ((staysF t (cs.zip (daysF b k t cs))).map D.int)])[S5.length]? = some (.lst ((staysF t (cs.zip (daysF b k t cs))).map D.int)) := at_new
    generalize (S5 ++ [Ob.lst ((staysF t (cs.zip (daysF b k t cs))).map D.int)] : Sto) = S6 at hb6 hm6 ht6 hs6 ⊢
    generalize S5.length = ms at hs6 ⊢
    refine ⟨_, _, _, src_loc hm6, src_loc ht6, src_loc hs6, ⟨rfl, rfl, rfl⟩, ?_⟩
    have hgok : gok ([(mc, cs.map D.int)] ++ ([(mt, (daysF b k t cs).map pairD)] ++ [(ms, (staysF t (cs.zip (daysF b k t cs))).map D.int)])) S6 = true := gok_cons hm6 (gok_cons ht6 (gok_cons hs6 gok_nil))
    have hzl : (zipD3 (cs.map D.int) ((daysF b k t cs).map pairD) ((staysF t (cs.zip (daysF b k t cs))).map D.int)).length = cs.length := by
      simp [zipD3, hdl, staysF_len]
    refine w_forGo (fun i2 env S' => S' = S6 ∧ ∃ e8 e9 e10 e11, env = [some (.rol (ns.map D.int)), some (.int i), some (.loc S.length), some (boundsD b k), some (.loc mc), some (.int t), some (.loc mt), some (.int (endF b k t (cs.take i2))), e8, e9, e10, e11, e12, e13, e14, e15, e16, e17, none]) ⟨rfl, _, _, _, _, rfl⟩ ?_ ?_
    · rintro i2 x env S' hx2 ⟨rfl, e8, e9, e10, e11, rfl⟩
      refine ⟨hgok, ?_⟩
      obtain ⟨x1, x2, x3, h1, h2, h3, rfl⟩ := zipD3_get hx2
      obtain ⟨c, hc, rfl⟩ := map_get h1
      obtain ⟨p, hp, rfl⟩ := map_get h2
      obtain ⟨u, hu, rfl⟩ := map_get h3
      rw [days_get t cs i2 c hc] at hp
      cases hp
      rw [stays_get t cs i2 c hc] at hu
      cases hu
      walk_at "w"
      refine br_dt rfl ?_
      walk_at "w"
      refine br_dt rfl ?_
      walk_at "w"
      exact ⟨rfl, _, _, _, _, rfl⟩
    rintro env S' ⟨rfl, e8, e9, e10, e11, rfl⟩
    refine ⟨hgok, ?_⟩
    rw [hzl, List.take_length]
    clear hgok hx
    walk_at "w"
    refine w_sum (ns := cs) (by rw [lrd_loc hm6]; exact (ints_of (fun c => c) cs).trans (by rw [List.map_id'])) ?_
    walk_at "w"
    refine ⟨by rw [List.length_map, hdl]; unfold big; omega, ?_⟩
    refine w_lcGo (fun i2 acc S2 => S2 = S' ∧ acc = ((daysF b k t cs).take i2).map fun p => D.int (p.1 + p.2)) ⟨rfl, rfl⟩ ?_ ?_
    · rintro i2 x acc S2 hx ⟨rfl, rfl⟩
      obtain ⟨p, hp, rfl⟩ := map_get hx
      refine ⟨gok_cons ht6 gok_nil, ?_⟩
      walk_at "w"
      refine ⟨rfl, ?_⟩
      rw [take_succ hp, List.map_append]
      rfl
    rintro acc S2 ⟨rfl, rfl⟩
    refine ⟨gok_cons ht6 gok_nil, ?_⟩
    rw [List.length_map, List.take_length]
    refine w_sum (ns := (daysF b k t cs).map fun p => p.1 + p.2) (ints_of (fun p : Int × Int => p.1 + p.2) _) ?_
    walk_at "w"
    refine br_dt (all_sum t cs) ?_
    walk_at "w"
    refine T _ _ _ _ hb6 (by decide) (by decide) fun sb S7 sb0 sb1 hb7 f7 _ => ?_
    walk_at "w"
    refine T _ _ _ _ hb7 (by decide) (by decide) fun sk S8 sk0 sk1 hb8 f8 _ => ?_
    walk_at "w"
    refine T _ _ _ _ hb8 (by decide) (by decide) fun fn S9 fn0 fn1 hb9 f9 _ => ?_
    walk_at "w"
    refine ⟨fn, rfl, by omega, ?_⟩
    refine ⟨by unfold rngI big; simp; omega, ?_⟩
    refine w_lcGo (fun i2 acc S2 => ∃ fs : List Int, acc = fs.map D.int ∧ (∀ x ∈ fs, (0 : Int) ≤ x ∧ x < 5) ∧ fs.length = i2 ∧ Bag S.length S2) ⟨[], rfl, fun x h => (nomatch h), rfl, hb9⟩ ?_ ?_
    · rintro i2 x acc S2 hx ⟨fs, rfl, hfs, hfl, hbf⟩
      obtain ⟨_, rfl⟩ := rngI_get hx
      refine ⟨gok_nil, ?_⟩
      walk_at "w"
      refine T _ _ _ _ hbf (by decide) (by decide) fun v S3 v0 v1 hbf3 _ _ => ?_
      walk_at "w"
      refine ⟨fs ++ [v], by simp, fun x hx => ?_, by simp [hfl], hbf3⟩
      rcases List.mem_append.mp hx with hx | hx
      · exact hfs x hx
      · rw [List.mem_singleton.mp hx]; exact ⟨v0, v1⟩
    rintro acc S10 ⟨fs, rfl, hfs, hfl, hb10⟩
    have hfl : fs.length ≤ 3 := by rw [hfl]; simp [rngI]; omega
    refine ⟨gok_nil, ?_⟩
    walk_at "w"
    refine T _ _ _ _ hb10.push (by decide) (by decide) fun bg S11 bg0 bg1 hb11 f11 _ => ?_
    have hmf : S11[S10.length]? = some (.lst (fs.map D.int)) := f11.at at_new hb10.ne
    walk_at "w"
    generalize S10.length = mf at hmf ⊢
    have hfs0 : ∀ c ∈ fs, (0 : Int) ≤ c := fun c h => (hfs c h).1
    have hfs9 : ∀ c ∈ fs, c ≤ 1000 := fun c h => by have := hfs c h; omega
    refine AD fs.length hfl sb sk bg mf fs S11 _ sb0 (by omega) sk0 (by omega) bg0 rfl hfl hfs0 hmf (by omega) hfs9 fun m' ls S12 r12 _ _ _ he12 => ?_
    have hmf12 := he12 _ _ hmf
    walk_at "w"
    refine src_q (src_loc r12.at_) ?_
    have hcount : ls.length < 10000 := by
      rw [r12.len]
      refine Nat.lt_of_le_of_lt (allD_len (by omega) sk0 (by omega) bg fs) (Nat.lt_of_le_of_lt (Nat.pow_le_pow_right (by decide) hfl) (by decide))
    refine ⟨by rw [List.length_map]; unfold big; omega, ?_⟩
    refine w_lcGo (fun i2 acc S2 => rfds (lkS S2 12) acc = some (((allD sb sk bg fs).take i2).map rankP) ∧ ∀ (m : Nat) (o : Ob), S12[m]? = some o → S2[m]? = some o) ⟨rfl, fun _ _ h => h⟩ ?_ ?_
    · rintro i2 x acc S2 hx ⟨hacc, hext⟩
      obtain ⟨l, hl, rfl⟩ := map_get hx
      obtain ⟨r, hr⟩ : ∃ r, (allD sb sk bg fs)[i2]? = some r := ⟨_, List.getElem?_eq_getElem (by rw [← r12.len]; exact (List.getElem?_eq_some_iff.mp hl).1)⟩
      have hrow := hext _ _ (r12.row i2 l r hl hr)
      have hrl : r.length = fs.length := day_len _ _ _ (allD_day _ _ _ (List.mem_of_getElem? hr))
      refine ⟨gok_cons (hext _ _ r12.at_) gok_nil, ?_⟩
      walk_at "w"
      refine RK l r _ _ hrow (by omega) ?_
      walk_at "w"
      refine ⟨?_, fun m o h => at_left (hext m o h)⟩
      rw [take_succ hr, List.map_append]
      refine rfds_app (rfds_mono (lkS_ext (fun m o h => at_left h) 12) _ _ hacc) ?_
      show (match rfd (lkS (S2 ++ [Ob.lst (r.map rankD)]) 12) (.tup [.int (sentS r), .loc S2.length]), (some [] : Option (List PyData)) with
        | some d, some ds => some (d :: ds)
        | _, _ => none) = _
      rw [rank_rfd at_new]
      rfl
    rintro acc S13 ⟨hacc, hext⟩
    rw [List.length_map, r12.len, List.take_length] at hacc
    refine ⟨gok_cons (hext _ _ r12.at_) gok_nil, ?_⟩
    obtain ⟨le1, le2, le3⟩ := ranks_least (b := sb) (k := sk) (t := bg) (cs := fs) sb0 sk0 bg0 hfs0
    refine w_min1 (x := .new acc) rfl hacc (ranks_best (List.length_pos_of_mem (day_allD bg fs _ (days_day sb0 sk0 bg fs bg0 hfs0)))) le1 le2 le3 fun due hdue hdr => ?_
    walk_at "w"
    refine DY _ _ _ _ _ _ _ (hext _ _ hmf12) (by omega) ?_
    walk_at "w"
    refine RK _ _ _ _ at_new (by rw [daysF_len]; omega) ?_
    walk_at "w"
    refine w_ne (b := true) ?_ ?_
    · refine (eqOf_rf (p := rankP (daysF sb sk bg fs)) (q := rankP (daysF sb sk bg fs)) ?_ ?_ (rankP_sh _) (rankP_sh _)).trans (congrArg some (eqv_refl_alike _ (rankP_alike _ _)))
      · exact rank_rfd at_new
      · exact rfd_mono (lkS_ext (fun m o h => at_left (at_left h)) 12) _ _ hdr
    walk_at "w"
    exact ⟨_, _, _, _, _, _, _, _, _, _, _, _, _, _, _, _, _, rfl⟩
  · rintro env S ⟨e1, e2, e3, e4, e5, e6, e7, e8, e9, e10, e11, e12, e13, e14, e15, e16, e17, rfl⟩
    refine ⟨gok_nil, ?_⟩
    walk_at "w"
    have gr : (10 : Int) ^ Int.toNat 9 = 1000000000 := by decide
    rw [gr]
    refine DY 1000000000 1000000000 1000000000 S.length [1000000000, 0] (S ++ [Ob.lst [.int 1000000000, .int 0]]) _ at_new (by decide) ?_
    walk_at "w"
    refine w_neL (α := Int × Int) (xs := [(1000000000, 0), (1000000000, 0)]) (ys := [(1000000000, 0), (1000000000, 0)]) (lsd_loc at_new) (lsd_new (α := Int × Int) (xs := [(1000000000, 0), (1000000000, 0)])) ?_
    walk_at "w"
    refine br_dt rfl ?_
    walk_at "w"
    refine DY 5 5 20 _ [] _ _ at_new (by decide) ?_
    walk_at "w"
    refine w_eqL (α := Int × Int) (xs := []) (ys := []) (lsd_loc at_new) (lsd_nil (α := Int × Int)) ?_
    refine tx_q rfl ?_
    refine br_tr rfl ?_
    walk_at "w"
    refine DY 999999999 0 1000000000 _ [1000000000] _ _ at_new (by decide) ?_
    walk_at "w"
    refine w_eqL (α := Int × Int) (xs := [(999999999, 1000000001)]) (ys := [(999999999, 1000000001)]) (lsd_loc at_new) (lsd_new (α := Int × Int) (xs := [(999999999, 1000000001)])) ?_
    walk_at "w"
    rfl
end Bz.K12

set_option Elab.async false
set_option linter.all false
set_option maxRecDepth 100000
set_option maxHeartbeats 4000000
namespace Bz.K12
open PySem PySem.Spec PyProof.Rows L2
theorem all_n : ∀ (n m : Nat), AllS n (semF tab (m + n + 1) "_law_all_days")
  | 0, m => by
    rw [e_law_all_days]
    exact all_ok fun n' e => by omega
  | n + 1, m => by
    rw [e_law_all_days]
    exact all_ok fun n' e => by
      cases e
      have := all_n n m
      rwa [show m + n + 1 = m + (n + 1) from rfl] at this
theorem gives : Gives tab 40 := by
  intro ns hns
  have T : ∀ n, TakeS (semF tab (n + 1) "_law_take") := fun n => by rw [e_law_take]; exact take_ok _
  have O : ∀ n, OfS (semF tab (n + 2) "_law_of") := fun n => by rw [e_law_of]; exact of_ok (T n)
  have B : ∀ n, BagS (semF tab (n + 1) "_law_bag") := fun n => by rw [e_law_bag]; exact bag_ok _
  have L : ∀ n, LimitsS (semF tab (n + 3) "_law_limits") := fun n => by rw [e_law_limits]; exact limits_ok (T _) (O n)
  have C : ∀ n, ComesS (semF tab (n + 3) "_law_comes") := fun n => by rw [e_law_comes]; exact comes_ok (T _) (O n)
  have DO : ∀ n, DayOfS (semF tab (n + 1) "day_of") := fun n => by rw [e_day_of]; exact dayOf_ok _
  have DY : ∀ n, DaysS (semF tab (n + 2) "days") := fun n => by rw [e_days]; exact days_ok (DO n)
  have ST : ∀ n, StaysS (semF tab (n + 1) "_law_stays") := fun n => by rw [e_law_stays]; exact stays_ok _
  have IF : ∀ n, IsFromS (semF tab (n + 1) "is_from") := fun n => by rw [e_is_from]; exact isFrom_ok _
  have A1 : ∀ n, AreS (semF tab (n + 2) "are_days") := fun n => by rw [e_are_days]; exact are_ok (IF n)
  have RK : ∀ n, RankS (semF tab (n + 1) "_law_rank") := fun n => by rw [e_law_rank]; exact rank_ok _
  have h := law_ok (F := semF tab 39) (B 38) (T 38) (O 37) (L 36) (C 36) (DY 37) (ST 38) (A1 37) (fun n hn => by
    have := all_n n (38 - n)
    rwa [show 38 - n + n + 1 = 39 by omega] at this) (RK 38) ns hns
  rw [← e_law] at h
  obtain ⟨d, S, e, rfl⟩ := h
  exact ⟨S, e⟩
end Bz.K12
namespace Bz.K12
open PySem PySem.Spec PyProof.Rows L2
theorem fs_is_from : FnScope f_is_from.N f_is_from.ps (defScope f_is_from.st) := ⟨rfl, rfl, rfl, by decide +kernel, rfl, by decide +kernel, by decide +kernel⟩
theorem fb_is_from (kV doc pm : Value) (an : Option Addr) (cdv ct : Value) (us : List Value) (hl : us.length = f_is_from.ps.length) : bindArgs (PySem.W.fnOf f_is_from.name f_is_from.name (defArgs f_is_from.st) (defBody f_is_from.st) (defScope f_is_from.st) .none kV doc pm an cdv ct) ⟨us, []⟩ = pure (f_is_from.ps.zip us) := match us, hl with | [_, _, _], _ => rfl
theorem fs_day_of : FnScope f_day_of.N f_day_of.ps (defScope f_day_of.st) := ⟨rfl, rfl, rfl, by decide +kernel, rfl, by decide +kernel, by decide +kernel⟩
theorem fb_day_of (kV doc pm : Value) (an : Option Addr) (cdv ct : Value) (us : List Value) (hl : us.length = f_day_of.ps.length) : bindArgs (PySem.W.fnOf f_day_of.name f_day_of.name (defArgs f_day_of.st) (defBody f_day_of.st) (defScope f_day_of.st) .none kV doc pm an cdv ct) ⟨us, []⟩ = pure (f_day_of.ps.zip us) := match us, hl with | [_, _], _ => rfl
theorem fs_days : FnScope f_days.N f_days.ps (defScope f_days.st) := ⟨rfl, rfl, rfl, by decide +kernel, rfl, by decide +kernel, by decide +kernel⟩
theorem fb_days (kV doc pm : Value) (an : Option Addr) (cdv ct : Value) (us : List Value) (hl : us.length = f_days.ps.length) : bindArgs (PySem.W.fnOf f_days.name f_days.name (defArgs f_days.st) (defBody f_days.st) (defScope f_days.st) .none kV doc pm an cdv ct) ⟨us, []⟩ = pure (f_days.ps.zip us) := match us, hl with | [_, _, _], _ => rfl
theorem fs_are_days : FnScope f_are_days.N f_are_days.ps (defScope f_are_days.st) := ⟨rfl, rfl, rfl, by decide +kernel, rfl, by decide +kernel, by decide +kernel⟩
theorem fb_are_days (kV doc pm : Value) (an : Option Addr) (cdv ct : Value) (us : List Value) (hl : us.length = f_are_days.ps.length) : bindArgs (PySem.W.fnOf f_are_days.name f_are_days.name (defArgs f_are_days.st) (defBody f_are_days.st) (defScope f_are_days.st) .none kV doc pm an cdv ct) ⟨us, []⟩ = pure (f_are_days.ps.zip us) := match us, hl with | [_, _, _, _], _ => rfl
theorem fs_law_bag : FnScope f_law_bag.N f_law_bag.ps (defScope f_law_bag.st) := ⟨rfl, rfl, rfl, by decide +kernel, rfl, by decide +kernel, by decide +kernel⟩
theorem fb_law_bag (kV doc pm : Value) (an : Option Addr) (cdv ct : Value) (us : List Value) (hl : us.length = f_law_bag.ps.length) : bindArgs (PySem.W.fnOf f_law_bag.name f_law_bag.name (defArgs f_law_bag.st) (defBody f_law_bag.st) (defScope f_law_bag.st) .none kV doc pm an cdv ct) ⟨us, []⟩ = pure (f_law_bag.ps.zip us) := match us, hl with | [_, _], _ => rfl
theorem fs_law_take : FnScope f_law_take.N f_law_take.ps (defScope f_law_take.st) := ⟨rfl, rfl, rfl, by decide +kernel, rfl, by decide +kernel, by decide +kernel⟩
theorem fb_law_take (kV doc pm : Value) (an : Option Addr) (cdv ct : Value) (us : List Value) (hl : us.length = f_law_take.ps.length) : bindArgs (PySem.W.fnOf f_law_take.name f_law_take.name (defArgs f_law_take.st) (defBody f_law_take.st) (defScope f_law_take.st) .none kV doc pm an cdv ct) ⟨us, []⟩ = pure (f_law_take.ps.zip us) := match us, hl with | [_, _], _ => rfl
theorem fs_law_of : FnScope f_law_of.N f_law_of.ps (defScope f_law_of.st) := ⟨rfl, rfl, rfl, by decide +kernel, rfl, by decide +kernel, by decide +kernel⟩
theorem fb_law_of (kV doc pm : Value) (an : Option Addr) (cdv ct : Value) (us : List Value) (hl : us.length = f_law_of.ps.length) : bindArgs (PySem.W.fnOf f_law_of.name f_law_of.name (defArgs f_law_of.st) (defBody f_law_of.st) (defScope f_law_of.st) .none kV doc pm an cdv ct) ⟨us, []⟩ = pure (f_law_of.ps.zip us) := match us, hl with | [_, _], _ => rfl
theorem fs_law_limits : FnScope f_law_limits.N f_law_limits.ps (defScope f_law_limits.st) := ⟨rfl, rfl, rfl, by decide +kernel, rfl, by decide +kernel, by decide +kernel⟩
theorem fb_law_limits (kV doc pm : Value) (an : Option Addr) (cdv ct : Value) (us : List Value) (hl : us.length = f_law_limits.ps.length) : bindArgs (PySem.W.fnOf f_law_limits.name f_law_limits.name (defArgs f_law_limits.st) (defBody f_law_limits.st) (defScope f_law_limits.st) .none kV doc pm an cdv ct) ⟨us, []⟩ = pure (f_law_limits.ps.zip us) := match us, hl with | [_], _ => rfl
theorem fs_law_comes : FnScope f_law_comes.N f_law_comes.ps (defScope f_law_comes.st) := ⟨rfl, rfl, rfl, by decide +kernel, rfl, by decide +kernel, by decide +kernel⟩
theorem fb_law_comes (kV doc pm : Value) (an : Option Addr) (cdv ct : Value) (us : List Value) (hl : us.length = f_law_comes.ps.length) : bindArgs (PySem.W.fnOf f_law_comes.name f_law_comes.name (defArgs f_law_comes.st) (defBody f_law_comes.st) (defScope f_law_comes.st) .none kV doc pm an cdv ct) ⟨us, []⟩ = pure (f_law_comes.ps.zip us) := match us, hl with | [_, _], _ => rfl
theorem fs_law_stays : FnScope f_law_stays.N f_law_stays.ps (defScope f_law_stays.st) := ⟨rfl, rfl, rfl, by decide +kernel, rfl, by decide +kernel, by decide +kernel⟩
theorem fb_law_stays (kV doc pm : Value) (an : Option Addr) (cdv ct : Value) (us : List Value) (hl : us.length = f_law_stays.ps.length) : bindArgs (PySem.W.fnOf f_law_stays.name f_law_stays.name (defArgs f_law_stays.st) (defBody f_law_stays.st) (defScope f_law_stays.st) .none kV doc pm an cdv ct) ⟨us, []⟩ = pure (f_law_stays.ps.zip us) := match us, hl with | [_, _, _], _ => rfl
theorem fs_law_all_days : FnScope f_law_all_days.N f_law_all_days.ps (defScope f_law_all_days.st) := ⟨rfl, rfl, rfl, by decide +kernel, rfl, by decide +kernel, by decide +kernel⟩
theorem fb_law_all_days (kV doc pm : Value) (an : Option Addr) (cdv ct : Value) (us : List Value) (hl : us.length = f_law_all_days.ps.length) : bindArgs (PySem.W.fnOf f_law_all_days.name f_law_all_days.name (defArgs f_law_all_days.st) (defBody f_law_all_days.st) (defScope f_law_all_days.st) .none kV doc pm an cdv ct) ⟨us, []⟩ = pure (f_law_all_days.ps.zip us) := match us, hl with | [_, _, _], _ => rfl
theorem fs_law_rank : FnScope f_law_rank.N f_law_rank.ps (defScope f_law_rank.st) := ⟨rfl, rfl, rfl, by decide +kernel, rfl, by decide +kernel, by decide +kernel⟩
theorem fb_law_rank (kV doc pm : Value) (an : Option Addr) (cdv ct : Value) (us : List Value) (hl : us.length = f_law_rank.ps.length) : bindArgs (PySem.W.fnOf f_law_rank.name f_law_rank.name (defArgs f_law_rank.st) (defBody f_law_rank.st) (defScope f_law_rank.st) .none kV doc pm an cdv ct) ⟨us, []⟩ = pure (f_law_rank.ps.zip us) := match us, hl with | [_], _ => rfl
theorem fs_law : FnScope f_law.N f_law.ps (defScope f_law.st) := ⟨rfl, rfl, rfl, by decide +kernel, rfl, by decide +kernel, by decide +kernel⟩
theorem fb_law (kV doc pm : Value) (an : Option Addr) (cdv ct : Value) (us : List Value) (hl : us.length = f_law.ps.length) : bindArgs (PySem.W.fnOf f_law.name f_law.name (defArgs f_law.st) (defBody f_law.st) (defScope f_law.st) .none kV doc pm an cdv ct) ⟨us, []⟩ = pure (f_law.ps.zip us) := match us, hl with | [_], _ => rfl
theorem all_mk {w : World} {K : PySem.W.Frag} {h : Heap} {mg : Str → Option Value} {fa f1 f2 f3 f4 f5 f6 f7 f8 f9 f10 f11 f12 f13 : Addr} (X : K.In h) (G : h.Ns mainGlobals mg) (hfa : mg "law" = some (.ref fa))
    {od1 an1 od2 an2 od3 an3 od4 an4 od5 an5 od6 an6 od7 an7 od8 an8 od9 an9 od10 an10 od11 an11 od12 an12 od13 an13 : Option Addr} {sl1 sl2 sl3 sl4 sl5 sl6 sl7 sl8 sl9 sl10 sl11 sl12 sl13 : Array (Option Value)} {oc1 kV1 dc1 pm1 cd1 ct1 oc2 kV2 dc2 pm2 cd2 ct2 oc3 kV3 dc3 pm3 cd3 ct3 oc4 kV4 dc4 pm4 cd4 ct4 oc5 kV5 dc5 pm5 cd5 ct5 oc6 kV6 dc6 pm6 cd6 ct6 oc7 kV7 dc7 pm7 cd7 ct7 oc8 kV8 dc8 pm8 cd8 ct8 oc9 kV9 dc9 pm9 cd9 ct9 oc10 kV10 dc10 pm10 cd10 ct10 oc11 kV11 dc11 pm11 cd11 ct11 oc12 kV12 dc12 pm12 cd12 ct12 oc13 kV13 dc13 pm13 cd13 ct13 : Value}
    (a1 : PySem.W.nsIn K mainGlobals "is_from" = some (some (.ref f1))) (l1 : K.lookup f1 = some ⟨oc1, od1, .func (PySem.W.fnOf "is_from" "is_from" (defArgs f_is_from.st) (defBody f_is_from.st) (defScope f_is_from.st) .none kV1 dc1 pm1 an1 cd1 ct1), sl1⟩) (c1 : PySem.W.codeIn K cd1 "is_from" = true) (k1 : PySem.W.keepIn K (.ref f1) = true)
    (a2 : PySem.W.nsIn K mainGlobals "day_of" = some (some (.ref f2))) (l2 : K.lookup f2 = some ⟨oc2, od2, .func (PySem.W.fnOf "day_of" "day_of" (defArgs f_day_of.st) (defBody f_day_of.st) (defScope f_day_of.st) .none kV2 dc2 pm2 an2 cd2 ct2), sl2⟩) (c2 : PySem.W.codeIn K cd2 "day_of" = true) (k2 : PySem.W.keepIn K (.ref f2) = true)
    (a3 : PySem.W.nsIn K mainGlobals "days" = some (some (.ref f3))) (l3 : K.lookup f3 = some ⟨oc3, od3, .func (PySem.W.fnOf "days" "days" (defArgs f_days.st) (defBody f_days.st) (defScope f_days.st) .none kV3 dc3 pm3 an3 cd3 ct3), sl3⟩) (c3 : PySem.W.codeIn K cd3 "days" = true) (k3 : PySem.W.keepIn K (.ref f3) = true)
    (a4 : PySem.W.nsIn K mainGlobals "are_days" = some (some (.ref f4))) (l4 : K.lookup f4 = some ⟨oc4, od4, .func (PySem.W.fnOf "are_days" "are_days" (defArgs f_are_days.st) (defBody f_are_days.st) (defScope f_are_days.st) .none kV4 dc4 pm4 an4 cd4 ct4), sl4⟩) (c4 : PySem.W.codeIn K cd4 "are_days" = true) (k4 : PySem.W.keepIn K (.ref f4) = true)
    (a5 : PySem.W.nsIn K mainGlobals "_law_bag" = some (some (.ref f5))) (l5 : K.lookup f5 = some ⟨oc5, od5, .func (PySem.W.fnOf "_law_bag" "_law_bag" (defArgs f_law_bag.st) (defBody f_law_bag.st) (defScope f_law_bag.st) .none kV5 dc5 pm5 an5 cd5 ct5), sl5⟩) (c5 : PySem.W.codeIn K cd5 "_law_bag" = true) (k5 : PySem.W.keepIn K (.ref f5) = true)
    (a6 : PySem.W.nsIn K mainGlobals "_law_take" = some (some (.ref f6))) (l6 : K.lookup f6 = some ⟨oc6, od6, .func (PySem.W.fnOf "_law_take" "_law_take" (defArgs f_law_take.st) (defBody f_law_take.st) (defScope f_law_take.st) .none kV6 dc6 pm6 an6 cd6 ct6), sl6⟩) (c6 : PySem.W.codeIn K cd6 "_law_take" = true) (k6 : PySem.W.keepIn K (.ref f6) = true)
    (a7 : PySem.W.nsIn K mainGlobals "_law_of" = some (some (.ref f7))) (l7 : K.lookup f7 = some ⟨oc7, od7, .func (PySem.W.fnOf "_law_of" "_law_of" (defArgs f_law_of.st) (defBody f_law_of.st) (defScope f_law_of.st) .none kV7 dc7 pm7 an7 cd7 ct7), sl7⟩) (c7 : PySem.W.codeIn K cd7 "_law_of" = true) (k7 : PySem.W.keepIn K (.ref f7) = true)
    (a8 : PySem.W.nsIn K mainGlobals "_law_limits" = some (some (.ref f8))) (l8 : K.lookup f8 = some ⟨oc8, od8, .func (PySem.W.fnOf "_law_limits" "_law_limits" (defArgs f_law_limits.st) (defBody f_law_limits.st) (defScope f_law_limits.st) .none kV8 dc8 pm8 an8 cd8 ct8), sl8⟩) (c8 : PySem.W.codeIn K cd8 "_law_limits" = true) (k8 : PySem.W.keepIn K (.ref f8) = true)
    (a9 : PySem.W.nsIn K mainGlobals "_law_comes" = some (some (.ref f9))) (l9 : K.lookup f9 = some ⟨oc9, od9, .func (PySem.W.fnOf "_law_comes" "_law_comes" (defArgs f_law_comes.st) (defBody f_law_comes.st) (defScope f_law_comes.st) .none kV9 dc9 pm9 an9 cd9 ct9), sl9⟩) (c9 : PySem.W.codeIn K cd9 "_law_comes" = true) (k9 : PySem.W.keepIn K (.ref f9) = true)
    (a10 : PySem.W.nsIn K mainGlobals "_law_stays" = some (some (.ref f10))) (l10 : K.lookup f10 = some ⟨oc10, od10, .func (PySem.W.fnOf "_law_stays" "_law_stays" (defArgs f_law_stays.st) (defBody f_law_stays.st) (defScope f_law_stays.st) .none kV10 dc10 pm10 an10 cd10 ct10), sl10⟩) (c10 : PySem.W.codeIn K cd10 "_law_stays" = true) (k10 : PySem.W.keepIn K (.ref f10) = true)
    (a11 : PySem.W.nsIn K mainGlobals "_law_all_days" = some (some (.ref f11))) (l11 : K.lookup f11 = some ⟨oc11, od11, .func (PySem.W.fnOf "_law_all_days" "_law_all_days" (defArgs f_law_all_days.st) (defBody f_law_all_days.st) (defScope f_law_all_days.st) .none kV11 dc11 pm11 an11 cd11 ct11), sl11⟩) (c11 : PySem.W.codeIn K cd11 "_law_all_days" = true) (k11 : PySem.W.keepIn K (.ref f11) = true)
    (a12 : PySem.W.nsIn K mainGlobals "_law_rank" = some (some (.ref f12))) (l12 : K.lookup f12 = some ⟨oc12, od12, .func (PySem.W.fnOf "_law_rank" "_law_rank" (defArgs f_law_rank.st) (defBody f_law_rank.st) (defScope f_law_rank.st) .none kV12 dc12 pm12 an12 cd12 ct12), sl12⟩) (c12 : PySem.W.codeIn K cd12 "_law_rank" = true) (k12 : PySem.W.keepIn K (.ref f12) = true)
    (a13 : PySem.W.nsIn K mainGlobals "law" = some (some (.ref f13))) (l13 : K.lookup f13 = some ⟨oc13, od13, .func (PySem.W.fnOf "law" "law" (defArgs f_law.st) (defBody f_law.st) (defScope f_law.st) .none kV13 dc13 pm13 an13 cd13 ct13), sl13⟩) (c13 : PySem.W.codeIn K cd13 "law" = true) (k13 : PySem.W.keepIn K (.ref f13) = true)
    (z1 : PySem.W.nsIn K mainGlobals "len" = some none) (z2 : PySem.W.nsIn K mainGlobals "abs" = some none) (z3 : PySem.W.nsIn K mainGlobals "max" = some none) (z4 : PySem.W.nsIn K mainGlobals "min" = some none) (z5 : PySem.W.nsIn K mainGlobals "sum" = some none) (z6 : PySem.W.nsIn K mainGlobals "all" = some none) (z7 : PySem.W.nsIn K mainGlobals "list" = some none) (z8 : PySem.W.nsIn K mainGlobals "tuple" = some none) (z9 : PySem.W.nsIn K mainGlobals "isinstance" = some none) (z10 : PySem.W.nsIn K mainGlobals "int" = some none) (z11 : PySem.W.nsIn K mainGlobals "bool" = some none) (z12 : PySem.W.nsIn K mainGlobals "str" = some none) (z13 : PySem.W.nsIn K mainGlobals "dict" = some none) (z14 : PySem.W.nsIn K mainGlobals "range" = some none) (z15 : PySem.W.nsIn K mainGlobals "zip" = some none) (z16 : PySem.W.nsIn K mainGlobals "sorted" = some none) (z17 : PySem.W.nsIn K mainGlobals "set" = some none) (z18 : PySem.W.nsIn K mainGlobals "enumerate" = some none) :
    ∃ fd : FuncData, (∀ (s : Shared) (v : Value), BindsTo s fd ⟨[v], []⟩ [("script", v)]) ∧ ∀ base : Heap, K.In base → base.Ns mainGlobals mg → FnOk PySem.Challenge.rw_binround_k12_whole_days_send_the_least.prog w K mg base CX0 40 fa fd ["script"] (spTop K) := by
  have e := hfa.symm.trans (PySem.W.mg_of X G a13)
  cases e
  have hgl : ∀ x i, ([] : List (Str × Int)).lookup x = some i → ∃ t, mg x = some (.int i t) := gl_nil
  have F1 := fd_mk (fd := f_is_from) X G a1 l1 c1 k1 fs_is_from fb_is_from hgl
  have F2 := fd_mk (fd := f_day_of) X G a2 l2 c2 k2 fs_day_of fb_day_of hgl
  have F3 := fd_mk (fd := f_days) X G a3 l3 c3 k3 fs_days fb_days hgl
  have F4 := fd_mk (fd := f_are_days) X G a4 l4 c4 k4 fs_are_days fb_are_days hgl
  have F5 := fd_mk (fd := f_law_bag) X G a5 l5 c5 k5 fs_law_bag fb_law_bag hgl
  have F6 := fd_mk (fd := f_law_take) X G a6 l6 c6 k6 fs_law_take fb_law_take hgl
  have F7 := fd_mk (fd := f_law_of) X G a7 l7 c7 k7 fs_law_of fb_law_of hgl
  have F8 := fd_mk (fd := f_law_limits) X G a8 l8 c8 k8 fs_law_limits fb_law_limits hgl
  have F9 := fd_mk (fd := f_law_comes) X G a9 l9 c9 k9 fs_law_comes fb_law_comes hgl
  have F10 := fd_mk (fd := f_law_stays) X G a10 l10 c10 k10 fs_law_stays fb_law_stays hgl
  have F11 := fd_mk (fd := f_law_all_days) X G a11 l11 c11 k11 fs_law_all_days fb_law_all_days hgl
  have F12 := fd_mk (fd := f_law_rank) X G a12 l12 c12 k12 fs_law_rank fb_law_rank hgl
  have F13 := fd_mk (fd := f_law) X G a13 l13 c13 k13 fs_law fb_law hgl
  have hT : ∀ fd ∈ tab, ∃ f dat, FdOk K mg fd f dat := by
    intro fd h
    simp only [List.mem_cons, List.not_mem_nil, or_false] at h
    rcases h with rfl | rfl | rfl | rfl | rfl | rfl | rfl | rfl | rfl | rfl | rfl | rfl | rfl
    · exact ⟨_, _, F1⟩
    · exact ⟨_, _, F2⟩
    · exact ⟨_, _, F3⟩
    · exact ⟨_, _, F4⟩
    · exact ⟨_, _, F5⟩
    · exact ⟨_, _, F6⟩
    · exact ⟨_, _, F7⟩
    · exact ⟨_, _, F8⟩
    · exact ⟨_, _, F9⟩
    · exact ⟨_, _, F10⟩
    · exact ⟨_, _, F11⟩
    · exact ⟨_, _, F12⟩
    · exact ⟨_, _, F13⟩
  have hb : ∀ x ∈ bltNames, mg x = none := blt_mk X G z1 z2 z3 z4 z5 z6 z7 z8 z9 z10 z11 z12 z13 z14 z15 z16 z17 z18
  have hu : ∀ fd ∈ tab, findFD tab fd.name = some fd := by
    intro fd h
    simp only [List.mem_cons, List.not_mem_nil, or_false] at h
    rcases h with rfl | rfl | rfl | rfl | rfl | rfl | rfl | rfl | rfl | rfl | rfl | rfl | rfl <;> rfl
  exact ⟨PySem.W.fnOf "law" "law" (defArgs f_law.st) (defBody f_law.st) (defScope f_law.st) .none kV13 dc13 pm13 an13 cd13 ct13, fun s v => .of_eq rfl, fun base _ _ => top_ok rfl (fn_all hu hT hb 40 f_law (by simp [tab]) _ _ F13) gives⟩
end Bz.K12
open PySem PySem.W PyProof.Rows
set_option maxRecDepth 100000
set_option maxHeartbeats 0 in
theorem PySem.Challenge.cw_binround_k12_whole_days_send_the_least_holds : PySem.Challenge.rw_binround_k12_whole_days_send_the_least.Holds := by
  w_on; o_law; k_head; (case hw => w_witness2)
  k_fill
  refine L2.walk_of (l := PySem.Challenge.rw_binround_k12_whole_days_send_the_least) (n := 63) (k := 40) (x := "script") (CX := fun _ => L2.CX0) (sp := fun w => Bz.spTop _) rfl (by decide) rfl ⟨rfl, by decide, by decide⟩ (fun w h Y => PySem.W.kIn_of Y) ?F (fun _ H a ns hl hO hS => ⟨a, ns, rfl, hl, hO, hS, fun _ => rfl⟩) (fun _ _ _ _ _ h => h)
  case F =>
    intro w mg fa h KX G hmg
    refine' Bz.K12.all_mk KX G hmg ?a1 ?l1 ?c1 ?k1 ?a2 ?l2 ?c2 ?k2 ?a3 ?l3 ?c3 ?k3 ?a4 ?l4 ?c4 ?k4 ?a5 ?l5 ?c5 ?k5 ?a6 ?l6 ?c6 ?k6 ?a7 ?l7 ?c7 ?k7 ?a8 ?l8 ?c8 ?k8 ?a9 ?l9 ?c9 ?k9 ?a10 ?l10 ?c10 ?k10 ?a11 ?l11 ?c11 ?k11 ?a12 ?l12 ?c12 ?k12 ?a13 ?l13 ?c13 ?k13 ?z1 ?z2 ?z3 ?z4 ?z5 ?z6 ?z7 ?z8 ?z9 ?z10 ?z11 ?z12 ?z13 ?z14 ?z15 ?z16 ?z17 ?z18
    (case a1 => k_is); (case l1 => k_is); (case c1 => k_is); (case k1 => k_is); (case a2 => k_is); (case l2 => k_is); (case c2 => k_is); (case k2 => k_is); (case a3 => k_is); (case l3 => k_is); (case c3 => k_is); (case k3 => k_is); (case a4 => k_is); (case l4 => k_is); (case c4 => k_is); (case k4 => k_is); (case a5 => k_is); (case l5 => k_is); (case c5 => k_is); (case k5 => k_is); (case a6 => k_is); (case l6 => k_is); (case c6 => k_is); (case k6 => k_is); (case a7 => k_is); (case l7 => k_is); (case c7 => k_is); (case k7 => k_is); (case a8 => k_is); (case l8 => k_is); (case c8 => k_is); (case k8 => k_is); (case a9 => k_is); (case l9 => k_is); (case c9 => k_is); (case k9 => k_is); (case a10 => k_is); (case l10 => k_is); (case c10 => k_is); (case k10 => k_is); (case a11 => k_is); (case l11 => k_is); (case c11 => k_is); (case k11 => k_is); (case a12 => k_is); (case l12 => k_is); (case c12 => k_is); (case k12 => k_is); (case a13 => k_is); (case l13 => k_is); (case c13 => k_is); (case k13 => k_is); (case z1 => k_is); (case z2 => k_is); (case z3 => k_is); (case z4 => k_is); (case z5 => k_is); (case z6 => k_is); (case z7 => k_is); (case z8 => k_is); (case z9 => k_is); (case z10 => k_is); (case z11 => k_is); (case z12 => k_is); (case z13 => k_is); (case z14 => k_is); (case z15 => k_is); (case z16 => k_is); (case z17 => k_is); (case z18 => k_is)

